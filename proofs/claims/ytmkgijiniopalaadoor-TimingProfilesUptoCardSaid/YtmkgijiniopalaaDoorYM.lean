import Derived.Test.YtmkgijiniopalaaDoorYWWords
namespace Go.Proofs.YtmkgijiniopalaaDoor.M
open Go.RowKit Go.Proofs.YtmkgijiniopalaaDoorW.PrintWords Go.Proofs.YtmkgijiniopalaaDoorW.PrintLast Go.Proofs.YtmkgijiniopalaaDoorW.PrintMore
def be (l:List UInt8):Nat:=l.foldl (fun n c=>n*256+c.toNat) 0
theorem be_from (l:List UInt8):∀ n:Nat,l.foldl (fun n c=>n*256+c.toNat) n=n*256^l.length+be l:=by
 unfold be
 induction l with
 | nil=>intro n; simp
 | cons c l ih =>
   intro n
   simp only [List.foldl_cons,List.length_cons]
   rw [ih (n*256+c.toNat),ih (0*256+c.toNat),Nat.pow_succ]
   grind
theorem be_nil:be []=0:=rfl
theorem be_cons (c:UInt8) (l:List UInt8):be (c::l)=c.toNat*256^l.length+be l:=by
 show (c::l).foldl _ 0=_
 rw [List.foldl_cons,be_from]
 simp
theorem be_append (l m:List UInt8):be (l++m)=be l*256^m.length+be m:=by
 show (l++m).foldl _ 0=_
 rw [List.foldl_append,be_from]
 rfl
theorem be_snoc (l:List UInt8) (c:UInt8):be (l++[c])=be l*256+c.toNat:=by
 rw [be_append]; simp [be]
theorem be_lt (l:List UInt8):be l < 256^l.length:=by
 induction l with
 | nil=>simp [be]
 | cons c l ih =>
   rw [be_cons,List.length_cons,Nat.pow_succ]
   have h:=c.toNat_lt
   have:c.toNat*256^l.length≤255*256^l.length:=Nat.mul_le_mul_right _ (by omega)
   omega
def V (a:ByteArray):Nat:=be a.data.toList
theorem size_toList (a:ByteArray):a.data.toList.length=a.size:=by rw [Array.length_toList]; rfl
theorem V_lt (a:ByteArray):V a < 256^a.size:=by
 have:=be_lt a.data.toList
 rwa [size_toList] at this
def bytesOf (n:Nat):List UInt8:=if _h:n=0 then [] else bytesOf (n/256)++[UInt8.ofNat (n%256)]
termination_by n
decreasing_by omega
theorem bytesOf_zero:bytesOf 0=[]:=by unfold bytesOf; simp
theorem bytesOf_pos {n:Nat} (h:n≠0):bytesOf n=bytesOf (n/256)++[UInt8.ofNat (n%256)]:=by
 rw [bytesOf]; simp [h]
theorem be_bytesOf (n:Nat):be (bytesOf n)=n:=by
 induction n using Nat.strongRecOn with
 | _ n ih =>
   by_cases h:n=0
   ·subst h; rw [bytesOf_zero]; rfl
   rw [bytesOf_pos h,be_snoc,ih (n/256) (by omega)]
   have:(UInt8.ofNat (n%256)).toNat=n%256:=by simp
   omega
def B (n:Nat):ByteArray:=⟨(bytesOf n).toArray⟩
theorem B_toList (n:Nat):(B n).data.toList=bytesOf n:=by simp [B]
theorem V_B (n:Nat):V (B n)=n:=by simp [V,B,be_bytesOf]
def Lead (l:List UInt8):Prop:=∀ c,l.head? = some c→c≠0
theorem bytesOf_eq_nil {n:Nat}:bytesOf n=[]↔n=0:=by
 constructor
 ·intro h
  have:=be_bytesOf n
  rw [h] at this
  exact this.symm
 intro h; subst h; exact bytesOf_zero
theorem Lead_bytesOf (n:Nat):Lead (bytesOf n):=by
 induction n using Nat.strongRecOn with
 | _ n ih =>
   by_cases h:n=0
   ·subst h; rw [bytesOf_zero]; intro c hc; cases hc
   rw [bytesOf_pos h]
   intro c hc
   by_cases h2:n/256=0
   ·rw [h2,bytesOf_zero] at hc
    simp at hc
    rw [← hc]
    intro e
    have h3:=congrArg UInt8.toNat e
    simp at h3
    omega
   have hne:bytesOf (n/256)≠[]:=fun e=>h2 (bytesOf_eq_nil.1 e)
   rw [List.head?_append,Option.or_of_isSome (by simpa using hne)] at hc
   exact ih (n/256) (by omega) c hc
theorem Lead_pos {c:UInt8} {l:List UInt8} (h:Lead (c::l)):256^l.length≤be (c::l):=by
 have h1:c≠0:=h c rfl
 have h2:1≤c.toNat:=by
  rcases Nat.eq_zero_or_pos c.toNat with e | e
  ·exact absurd (UInt8.toNat_inj.1 (by simpa using e)) h1
  exact e
 rw [be_cons]
 have:=Nat.mul_le_mul_right (256^l.length) h2
 omega
theorem be_inj_len:∀ (l m:List UInt8),l.length=m.length→be l=be m→l=m
 | [],[],_,_=>rfl
 | [],_::_,h,_=>by simp at h
 | _::_,[],h,_=>by simp at h
 | c::l,d::m,h,e=>by
   have hl:l.length=m.length:=by simpa using h
   rw [be_cons,be_cons,hl] at e
   have h1:=be_lt l
   have h2:=be_lt m
   rw [hl] at h1
   have hp:0 < 256^m.length:=Nat.pow_pos (by decide)
   have hc:c.toNat=d.toNat:=by
    have e1:(c.toNat*256^m.length+be l)/256^m.length=c.toNat:=by
     rw [Nat.add_comm,Nat.add_mul_div_right _ _ hp,Nat.div_eq_of_lt h1]; omega
    have e2:(d.toNat*256^m.length+be m)/256^m.length=d.toNat:=by
     rw [Nat.add_comm,Nat.add_mul_div_right _ _ hp,Nat.div_eq_of_lt h2]; omega
    rw [← e1,← e2,e]
   rw [hc] at e
   rw [UInt8.toNat_inj.1 hc,be_inj_len l m hl (by omega)]
theorem len_of_lead {l:List UInt8} (h:Lead l) {k:Nat} (hk:be l < 256^k):l.length≤k:=by
 cases l with
 | nil=>simp
 | cons c l =>
   have h1:=Lead_pos h
   have h2:256^l.length < 256^k:=by omega
   have:=(Nat.pow_lt_pow_iff_right (by decide:1 < 256)).1 h2
   simp only [List.length_cons]; omega
theorem be_inj {l m:List UInt8} (hl:Lead l) (hm:Lead m) (e:be l=be m):l=m:=by
 refine be_inj_len l m ?_ e
 have h1:=len_of_lead hl (k:=m.length) (by rw [e]; exact be_lt m)
 have h2:=len_of_lead hm (k:=l.length) (by rw [← e]; exact be_lt l)
 omega
theorem bytesOf_be {l:List UInt8} (h:Lead l):bytesOf (be l)=l:=be_inj (Lead_bytesOf _) h (be_bytesOf _)
theorem B_V {a:ByteArray} (h:Lead a.data.toList):B (V a)=a:=by
 apply ByteArray.ext
 simp [B,V,bytesOf_be h]
theorem B_inj {m n:Nat} (h:B m=B n):m=n:=by rw [← V_B m,h,V_B]
theorem B_zero:B 0=⟨#[]⟩:=by simp [B,bytesOf_zero]
theorem size_B_le {n k:Nat} (h:n < 256^k):(B n).size≤k:=by
 have:=len_of_lead (Lead_bytesOf n) (k:=k) (by rw [be_bytesOf]; exact h)
 rwa [← B_toList,size_toList] at this
theorem lt_of_size_B {n k:Nat} (h:(B n).size≤k):n < 256^k:=by
 have h1:=V_lt (B n)
 rw [V_B] at h1
 exact Nat.lt_of_lt_of_le h1 (Nat.pow_le_pow_right (by decide) h)
theorem size_BV (a:ByteArray):(B (V a)).size≤a.size:=size_B_le (V_lt a)
theorem B_size_zero {n:Nat}:(B n).size=0↔n=0:=by
 constructor
 ·intro h
  have:=lt_of_size_B (n:=n) (k:=0) (by omega)
  simpa using this
 intro h; subst h; rw [B_zero]; rfl
theorem B_pos_size {n:Nat} (h:n≠0):256^((B n).size - 1)≤n:=by
 have hl:=Lead_bytesOf n
 have hb:=be_bytesOf n
 have hs:(B n).size=(bytesOf n).length:=by rw [← B_toList,size_toList]
 rw [hs]
 cases hq:bytesOf n with
 | nil=>exact absurd (bytesOf_eq_nil.1 hq) h
 | cons c l =>
   rw [hq] at hl hb
   have:=Lead_pos hl
   simp only [List.length_cons,Nat.add_sub_cancel]
   omega
theorem bt_toList (a:ByteArray) (i:Nat):bt a (i:Int)=((a.data.toList.getD i 0).toNat:Int):=by
 unfold bt
 have hi:((i:Int)).toNat=i:=by omega
 split
 ·rename_i h
  have h':i < a.size:=by omega
  have h2:i < a.data.toList.length:=by rw [size_toList]; exact h'
  rw [List.getD_eq_getElem?_getD,List.getElem?_eq_getElem h2]
  simp only [hi,Option.getD_some]
  rfl
 rename_i h
 have h2:¬ i < a.data.toList.length:=by
  rw [size_toList]; omega
 rw [List.getD_eq_getElem?_getD,List.getElem?_eq_none (by omega)]
 rfl
theorem extract_toList (a:ByteArray) (i:Nat):(a.extract i a.size).data.toList=a.data.toList.drop i:=by
 rw [ByteArray.data_extract,Array.toList_extract]
 simp only [List.extract]
 rw [List.take_of_length_le (by rw [List.length_drop,size_toList]; omega)]
def lv (b:Int):List Int→Int
 | []=>0
 | x::xs=>x+b*lv b xs
def InR (b:Int) (l:List Int):Prop:=∀ x∈l,0≤x∧x < b
theorem InR_nil (b:Int):InR b []:=fun _ h=>by cases h
theorem InR_cons {b x:Int} {l:List Int}:InR b (x::l)↔(0≤x∧x < b)∧InR b l:=by simp [InR]
theorem InR_set {b x:Int} {l:List Int} (h:InR b l) (i:Nat) (h0:0≤x) (h1:x < b):InR b (l.set i x):=by
 intro y hy
 rcases List.mem_or_eq_of_mem_set hy with hy | hy
 ·exact h y hy
 subst hy; exact ⟨h0,h1⟩
theorem InR_take {b:Int} {l:List Int} (h:InR b l) (i:Nat):InR b (l.take i):=fun x hx=>h x (List.mem_of_mem_take hx)
theorem InR_drop {b:Int} {l:List Int} (h:InR b l) (i:Nat):InR b (l.drop i):=fun x hx=>h x (List.mem_of_mem_drop hx)
theorem InR_replicate {b:Int} (hb:0 < b) (n:Nat):InR b (List.replicate n 0):=by
 intro x hx
 have:=List.eq_of_mem_replicate hx
 omega
theorem InR_getD {b:Int} (hb:0 < b) {l:List Int} (h:InR b l) (i:Nat):0≤l.getD i 0∧l.getD i 0 < b:=by
 rw [List.getD_eq_getElem?_getD]
 rcases hq:l[i]? with _ | x
 ·simp; exact hb
 exact h x (List.mem_of_getElem? hq)
theorem InR_rd {b:Int} (hb:0 < b) {l:List Int} (h:InR b l) (i:Int):0≤rd l i∧rd l i < b:=InR_getD hb h _
theorem lv_append (b:Int) (l m:List Int):lv b (l++m)=lv b l+b^l.length*lv b m:=by
 induction l with
 | nil=>simp [lv]
 | cons x l ih =>
   simp only [List.cons_append,lv,ih,List.length_cons,Int.pow_succ]
   grind
theorem lv_set (b:Int):∀ (l:List Int) (i:Nat) (v:Int),i < l.length→lv b (l.set i v)=lv b l+(v - l.getD i 0)*b^i
 | [],_,_,h=>by simp at h
 | x::l,0,v,_=>by simp [lv]; omega
 | x::l,i+1,v,h=>by
   have ih:=lv_set b l i v (by simpa using h)
   simp only [List.set_cons_succ,lv,ih,List.getD_cons_succ,Int.pow_succ]
   grind
theorem lv_nonneg {b:Int} (hb:0 < b):∀ {l:List Int},InR b l→0≤lv b l
 | [],_=>by simp [lv]
 | x::l,h=>by
   have h1:=InR_cons.1 h
   have h2:=lv_nonneg hb h1.2
   have h3:=Int.mul_nonneg (Int.le_of_lt hb) h2
   simp only [lv]; omega
theorem lv_lt {b:Int} (hb:0 < b):∀ {l:List Int},InR b l→lv b l < b^l.length
 | [],_=>by simp [lv]
 | x::l,h=>by
   have h1:=InR_cons.1 h
   have h2:=lv_lt hb h1.2
   have h3:b*(lv b l+1)≤b*b^l.length:=Int.mul_le_mul_of_nonneg_left (by omega) (Int.le_of_lt hb)
   simp only [lv,List.length_cons,Int.pow_succ]
   have e:b*(lv b l+1)=b*lv b l+b:=by grind
   have e2:b^l.length*b=b*b^l.length:=Int.mul_comm _ _
   omega
theorem lv_zeros (b:Int) (n:Nat):lv b (List.replicate n 0)=0:=by
 induction n with
 | zero=>rfl
 | succ n ih=>simp [List.replicate_succ,lv,ih]
theorem lv_take_succ (b:Int) (l:List Int) (i:Nat) (h:i < l.length):lv b (l.take (i+1))=lv b (l.take i)+l.getD i 0*b^i:=by
 rw [List.take_succ_eq_append_getElem h,lv_append]
 simp only [lv,List.length_take]
 have:min i l.length=i:=by omega
 rw [this,List.getD_eq_getElem?_getD,List.getElem?_eq_getElem h]
 simp only [Option.getD_some]
 grind
theorem lv_take_ge (b:Int) (l:List Int) (i:Nat) (h:l.length≤i):lv b (l.take i)=lv b l:=by rw [List.take_of_length_le h]
theorem lv_split (b:Int) (l:List Int) (i:Nat) (h:i≤l.length):lv b l=lv b (l.take i)+b^i*lv b (l.drop i):=by
 conv=>lhs; rw [← List.take_append_drop i l]
 rw [lv_append,List.length_take]
 have:min i l.length=i:=by omega
 rw [this]
def Dig (b:Int) (l:List Int) (n:Nat):Prop:=InR b l∧lv b l=n∧(l≠[]→b^(l.length - 1)≤n)
theorem getD_eq_rd (l:List Int) (i:Nat):l.getD i 0=rd l (i:Int):=by simp [rd]
theorem rd_set_ne (l:List Int) {i j:Nat} (h:i≠j) (v:Int):rd (l.set i v) (j:Int)=rd l (j:Int):=by
 simp [rd,List.getD_eq_getElem?_getD,List.getElem?_set_ne h]
theorem rd_set_self (l:List Int) {i:Nat} (h:i < l.length) (v:Int):rd (l.set i v) (i:Int)=v:=by
 simp [rd,List.getD_eq_getElem?_getD,h]
theorem tdiv_nn {a b:Int} (h:0≤a):Int.tdiv a b=a/b:=Int.tdiv_eq_ediv_of_nonneg h
theorem tmod_nn {a b:Int} (h:0≤a):Int.tmod a b=a%b:=Int.tmod_eq_emod_of_nonneg h
theorem wrap64_id {x:Int} (h0:-9223372036854775808≤x) (h1:x < 9223372036854775808):wrap64 x=x:=by unfold wrap64; omega
theorem pow_nat (b n:Nat):((b^n:Nat):Int)=(b:Int)^n:=Int.natCast_pow b n
theorem lt_pow {m b n:Nat} (h:m < b^n):(m:Int) < (b:Int)^n:=by
 have:=Int.ofNat_lt.2 h
 rwa [pow_nat] at this
theorem le_pow {m b n:Nat} (h:b^n≤m):(b:Int)^n≤(m:Int):=by
 have:=Int.ofNat_le.2 h
 rwa [pow_nat] at this
theorem pow_pos' {b:Int} (hb:0 < b) (n:Nat):0 < b^n:=Int.pow_pos hb
def bv (xs:List Int):Int:=lv 256 xs.reverse
theorem bv_set (xs:List Int) (k:Nat) (v:Int) (h:k < xs.length):bv (xs.set k v)=bv xs+(v - xs.getD k 0)*256^(xs.length - 1 - k):=by
 have e:(xs.set k v).reverse=xs.reverse.set (xs.length - 1 - k) v:=by
  apply List.ext_getElem
  ·simp
  intro i h1 h2
  simp only [List.length_reverse,List.length_set] at h1
  rw [List.getElem_reverse,List.getElem_set,List.getElem_set,List.getElem_reverse]
  simp only [List.length_set]
  by_cases hk:k=xs.length - 1 - i
  ·rw [if_pos hk,if_pos (by omega)]
  rw [if_neg hk,if_neg (by omega)]
 unfold bv
 rw [e,lv_set _ _ _ _ (by rw [List.length_reverse]; omega)]
 have e2:xs.reverse.getD (xs.length - 1 - k) 0=xs.getD k 0:=by
  rw [List.getD_eq_getElem?_getD,List.getD_eq_getElem?_getD,List.getElem?_reverse (by omega)]
  rw [show xs.length - 1 - (xs.length - 1 - k)=k by omega]
 rw [e2]
theorem be_lv (l:List UInt8):(be l:Int)=lv 256 (l.map fun c=>(c.toNat:Int)).reverse:=by
 induction l with
 | nil=>rfl
 | cons c l ih =>
   rw [be_cons,List.map_cons,List.reverse_cons,lv_append,List.length_reverse,List.length_map]
   simp only [lv]
   rw [← ih,Int.natCast_add,Int.natCast_mul,pow_nat]
   have:((256:Nat):Int)=256:=rfl
   rw [this]
   grind
theorem V_strOfNums {xs:List Int} (h:InR 256 xs):(V (strOfNums xs):Int)=bv xs:=by
 unfold V bv
 rw [be_lv,strOfNums_data,List.map_map]
 congr 2
 conv=>rhs; rw [← List.map_id xs]
 apply List.map_congr_left
 intro x hx
 have:=h x hx
 simp only [Function.comp,id]
 have hx':x.toNat < 256:=by omega
 have e:(UInt8.ofNat x.toNat).toNat=x.toNat:=by
  rw [UInt8.toNat_ofNat']
  exact Nat.mod_eq_of_lt hx'
 rw [e]
 omega
theorem bv_zeros (n:Nat):bv (List.replicate n 0)=0:=by
 unfold bv; rw [List.reverse_replicate]; exact lv_zeros 256 n
theorem bv_append (l m:List Int):bv (l++m)=bv m+256^m.length*bv l:=by
 unfold bv; rw [List.reverse_append,lv_append,List.length_reverse]
theorem _root_.Go.Proofs.YtmkgijiniopalaaDoorW.PrintWords.Ev.succ {α:Type} {g:Nat→Option α} {r:α} (h:Ev (fun k=>g (k+1)) r):Ev g r:=by
 obtain ⟨K,hK⟩:=h
 refine ⟨K+1,fun k hk=>?_⟩
 obtain ⟨j,rfl⟩:∃ j,k=j+1:=⟨k - 1,by omega⟩
 exact hK j (by omega)
end Go.Proofs.YtmkgijiniopalaaDoor.M
