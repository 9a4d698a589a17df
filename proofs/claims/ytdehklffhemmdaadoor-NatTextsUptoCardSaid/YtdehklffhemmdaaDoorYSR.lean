import Derived.Test.YtdehklffhemmdaaDoorYSA
import Derived.Test.YtdehklffhemmdaaDoorYHT
import Derived.Test.YtdehklffhemmdaaDoorYA0
import Derived.Test.YtdehklffhemmdaaDoorYA1
namespace Go.Proofs.YtdehklffhemmdaaDoor.SB
open Go.RowKit Go.Proofs.YtdehklffhemmdaaDoor.A Go.Proofs.YtdehklffhemmdaaDoor.M Go.Proofs.YtdehklffhemmdaaDoor.SA Go.Proofs.YtdehklffhemmdaaDoorW.PrintWords Go.Proofs.YtdehklffhemmdaaDoorW.PrintLast Go.Proofs.YtdehklffhemmdaaDoorW.PrintMore
set_option linter.unusedVariables false
set_option linter.unusedSimpArgs false
theorem drop_lead (l:List UInt8):∀ i,i < l.length→be l/256^i%256=(l.getD (l.length - 1 - i) 0).toNat:=by
  intro i hi
  have hsplit:l=l.take (l.length - 1 - i)++[l.getD (l.length - 1 - i) 0]++l.drop (l.length - i):=by
    have h1:l.length - 1 - i < l.length:=by omega
    conv=>lhs; rw [← List.take_append_drop (l.length - 1 - i) l,List.drop_eq_getElem_cons h1]
    rw [List.append_assoc,List.getD_eq_getElem?_getD,List.getElem?_eq_getElem h1]
    rw [show l.length - i=l.length - 1 - i+1 by omega]
    rfl
  have hl:(l.drop (l.length - i)).length=i:=by rw [List.length_drop]; omega
  have hb:be l=(be (l.take (l.length - 1 - i))*256+(l.getD (l.length - 1 - i) 0).toNat)*256^i+be (l.drop (l.length - i)):=by
    conv=>lhs; rw [hsplit]
    rw [be_append,be_snoc,hl]
  have hlt:=be_lt (l.drop (l.length - i))
  rw [hl] at hlt
  have hp:0 < 256^i:=Nat.pow_pos (by decide)
  rw [hb,Nat.add_comm,Nat.add_mul_div_right _ _ hp,Nat.div_eq_of_lt hlt]
  have:=(l.getD (l.length - 1 - i) 0).toNat_lt
  omega
theorem lv_snoc (b:Int) (l:List Int) (x:Int):lv b (l++[x])=lv b l+x*b^l.length:=by
  rw [lv_append]; simp only [lv]; grind
def dg (a:ByteArray) (i:Nat):Int:=((V a/256^i%256:Nat):Int)
theorem dg_range (a:ByteArray) (i:Nat):0≤dg a i∧dg a i < 256:=by
  unfold dg
  have:V a/256^i%256 < 256:=Nat.mod_lt _ (by decide)
  omega
theorem mod_pow_succ (a i:Nat):a%256^(i+1)=a%256^i+a/256^i%256*256^i:=by
  rw [Nat.pow_succ,Nat.mod_mul,Nat.mul_comm (256^i)]
theorem V_mod (a:ByteArray) {n:Nat} (h:a.size≤n):V a%256^n=V a :=
  Nat.mod_eq_of_lt (Nat.lt_of_lt_of_le (V_lt a) (Nat.pow_le_pow_right (by decide) h))
theorem getD_replicate (n:Nat) (j:Nat):(List.replicate n (0:Int)).getD j 0=0:=by
  rw [List.getD_eq_getElem?_getD,List.getElem?_replicate]; split<;>rfl
theorem mem_set_cases {l:List Int} {i:Nat} {v x:Int} (h:x∈l.set i v):x∈l∨x=v:=List.mem_or_eq_of_mem_set h
theorem lv_drop (b:Int) (l:List Int) (k:Nat) (h:k < l.length):lv b (l.drop k)=rd l (k:Int)+b*lv b (l.drop (k+1)):=by
  have e:l.drop k=rd l (k:Int)::l.drop (k+1):=by
    rw [← getD_eq_rd,List.drop_eq_getElem_cons h,List.getD_eq_getElem?_getD,List.getElem?_eq_getElem h]; rfl
  rw [e]; rfl
end Go.Proofs.YtdehklffhemmdaaDoor.SB
