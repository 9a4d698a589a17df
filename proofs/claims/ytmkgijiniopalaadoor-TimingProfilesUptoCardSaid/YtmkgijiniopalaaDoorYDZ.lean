import Derived.Test.YtmkgijiniopalaaDoorYDM
set_option maxRecDepth 100000
set_option linter.unusedSimpArgs false
set_option linter.unusedVariables false
section
namespace Go.Proofs.YtmkgijiniopalaaDoor.G
open Go.Proofs.YtmkgijiniopalaaDoor.U Go.RowKit
theorem quoN {s m:Nat} (h:s < 4611686018427387904):V.c (.int .i64 (IntKind.wrap .i64 (Int.tdiv (s:Int) (m:Int))))=V.c (.int .i64 ((s/m:Nat):Int)):=(show V.c (.int .i64 (IntKind.wrap .i64 (Int.tdiv (s:Int) (m:Int))))=V.c (.int .i64 (IntKind.wrap .i64 ((s/m:Nat):Int))) from rfl).trans <| wrI (e:=((s/m:Nat):Int)) (by have:=Nat.div_le_self s m; generalize s/m=q at *; omega)
theorem shlW {x r y:Nat} (h:x*2^r=y) (hr:r≤32) (hy:y < 4294967296):V.c (.int .u32 (IntKind.wrap .u32 ((x:Int)*(2:Int)^min r (IntKind.bits .u32))))=V.c (.int .u32 ((y:Nat):Int)):=by
 have e:min r (IntKind.bits .u32)=r:=by simp [IntKind.bits]; omega
 rw [e,← h]
 have e2:(x:Int)*(2:Int)^r=((x*2^r:Nat):Int):=by push_cast; rfl
 rw [e2]
 exact wrV (by omega)
theorem shrT {x r:Nat} (hr:r≤32):V.c (.int .u32 (Int.fdiv (x:Int) ((2:Int)^min r (IntKind.bits .u32))))=V.c (.int .u32 ((x/2^r:Nat):Int)):=by
 have e:min r (IntKind.bits .u32)=r:=by simp [IntKind.bits]; omega
 rw [e]
 have e2:(2:Int)^r=((2^r:Nat):Int):=by push_cast; rfl
 rw [e2]
 exact shrE rfl
theorem wB8 {x c:Nat} (h:x%256=c):V.c (.int .u8 (IntKind.wrap .u8 ((x:Nat):Int)))=V.c (.int .u8 ((c:Nat):Int)):=by
 subst h
 rfl
def bc (l:List Nat):List V:=l.map fun n=>.c (.int .u8 (n:Nat))
theorem bc_f {l:List Nat}:(bc l).all V.isC=true:=by simp [bc,V.isC]
def noS (s:ByteArray) (C:List V) (n i:Nat):St:=⟨slots 39 0 [(0,.c (.string s)),(3,.sl 0 0 n n),(12,.c (.int .i64 (((s.size:Nat):Int)))),(13,.c (.int .i64 (((i:Nat):Int))))],[some ⟨true,C⟩]⟩
def txS (a l:List Nat) (z:Int):St:=⟨slots 37 0 [(0,vW a),(3,.gr 0 l.length 1),(4,.c (.int .i64 (z - 1)))],[some ⟨!l.isEmpty,bc l⟩]⟩
def txT (a l:List Nat) (c:Nat) (z:Int):St:=⟨slots 37 0 [(0,vW a),(3,.gr 0 (l.length+1) 1),(4,.c (.int .i64 (z - 1)))],[some ⟨true,bc l++[.c (.int .u8 (c:Nat))]⟩]⟩
theorem txT_eq {a l:List Nat} {c:Nat} {z:Int}:txT a l c z=txS a (l++[c]) z:=by
 simp [txT,txS,bc]
theorem apB1 {l:List Nat} {c:Nat}:appG (bc l) [V.c (.int .u8 (c:Nat))] l.length 1 1∧((!l.isEmpty)=true∨l.length=0):=by
 refine ⟨⟨rfl,rfl,rfl,by simp [bc],List.all_eq_true.2 fun v hv=>?_,by decide⟩,?_⟩
 ·obtain ⟨n,_,rfl⟩:=List.mem_map.1 hv
  rfl
 cases l<;>simp
theorem strL {l:List Nat} {str:ByteArray} {o:Bool} (hs:str=strOfNums (l.map Int.ofNat)):∃ xs,str=strOfNums xs∧List.length xs=List.length l∧List.take (List.length l) (Row.cells ⟨o,bc l⟩)=List.map (fun n=>V.c (.int .u8 n)) xs:=⟨l.map Int.ofNat,hs,by simp,by show (bc l).take l.length=_; rw [List.take_of_length_le (by simp [bc]),List.map_map]; rfl⟩
theorem no_a {s:ByteArray} {C:List Nat} {n i y:Nat} (hn:C.length=n) (hi:i < s.size) (hs:s.size≤1099511627776) (hq:i/4 < n) (hb:bAt s (s.size - 1 - i) < 256) (hy:bAt s (s.size - 1 - i)*2^(8*(i%4))=y) (hy2:y < 4294967296) (gC:C.getD (i/4) 0 < 4294967296) (hor:C.getD (i/4) 0 ||| y=C.getD (i/4) 0+y)  : TSpec Tryd.prog (loopOf Tryd.f46 0) (noS s (wc C) n i) (.normal) (noS s ((wc C).set (i/4) (.c (.int .u32 ((C.getD (i/4) 0+y:Nat):Int)))) n (i+1)):=by
 exact tspec_dim (mask 39 0 [0,3,12,13]) 1 (sc:=[(3,0,.is (.c (.bool true))),(5,2,.is (.c (.int .i64 ((↑(ByteArray.size s):Int) - (1:Int))))),(5,4,.is (.c (.int .i64 ((↑(ByteArray.size s - (1:Nat) - i):Int))))),(6,2,.is (.c (.int .i64 ((↑(i/(4:Nat)):Int))))),(6,3,.is (V.p (0:Nat) (i/(4:Nat)))),(6,4,.fix (.int .u32 ((↑(List.getD C (i/(4:Nat)) (0:Nat)):Int)))),(6,7,.app),(6,8,.is (.c (.int .u32 ((↑(bAt s (ByteArray.size s - (1:Nat) - i)):Int))))),(6,10,.is (.c (.int .i64 ((↑(i%(4:Nat)):Int))))),(6,11,.is (.c (.int .i64 ((↑((8:Nat)*(i%(4:Nat))):Int))))),(6,12,.is (.c (.int .u32 (↑y:Int)))),(6,13,.is (.c (.int .u32 ((↑(List.getD C (i/(4:Nat)) (0:Nat)+y):Int))))),(6,14,.is (V.p (0:Nat) (i/(4:Nat)))),(6,15,.fix undef),(7,0,.is (.c (.int .i64 ((↑i:Int)+(1:Int)))))]) (sb:=[]) (by kernel_rfl) (hP (isB (show (decide ((↑i:Int) < (↑(ByteArray.size s):Int)))=true from dt)) (hP (wrI (e:=(↑(ByteArray.size s):Int) - (1:Int)) (by omega)) (hP (show V.c (Value.int .i64 (IntKind.wrap .i64 ((↑(ByteArray.size s):Int) - (1:Int) - (↑i:Int)))) = .c (.int .i64 ((↑(ByteArray.size s - (1:Nat) - i):Int))) from (wI (by omega))) (hP (show V.c (Value.int .i64 (IntKind.wrap .i64 (Int.tdiv (↑i:Int) (4:Int)))) = .c (.int .i64 ((↑(i/(4:Nat)):Int))) from (quoN (m:=4) (by omega))) (hP (pN (id:=(0:Nat)) (a:=(0:Nat)+i/(4:Nat)*(1:Nat)) (b:=i/(4:Nat)) (by omega)) (hP (show (0:Int)≤(↑(i/(4:Nat)):Int)∧(↑(i/(4:Nat)):Int) < (↑n:Int) by omega) (hP (wc_get (l:=C) (k:=i/4) (by omega)) (hP (show (0:Int)≤(↑(ByteArray.size s - (1:Nat) - i):Int)∧(↑(ByteArray.size s - (1:Nat) - i):Int) < (↑(ByteArray.size s):Int) by omega) (hP (wrV (e:=(↑(bAt s (ByteArray.size s - (1:Nat) - i)):Int)) (by omega)) (hP (show V.c (Value.int .i64 (Int.tmod (↑i:Int) (4:Int))) = .c (.int .i64 ((↑(i%(4:Nat)):Int))) from (rfl)) (hP (show V.c (Value.int .i64 (IntKind.wrap .i64 ((↑(i%(4:Nat)):Int)*(8:Int)))) = .c (.int .i64 ((↑((8:Nat)*(i%(4:Nat))):Int))) from (wI (by omega))) (hP (show V.c (Value.int .u32 (IntKind.wrap .u32 ((↑(bAt s (ByteArray.size s - (1:Nat) - i)):Int)*(2:Int)^min (Int.toNat (↑((8:Nat)*(i%(4:Nat))):Int)) (IntKind.bits .u32)))) = .c (.int .u32 (↑y:Int)) from (shlW hy (by omega) hy2)) (hP (show V.c (Value.int .u32 (IntKind.wrap .u32 (↑(BitVec.toNat (BitVec.ofInt (IntKind.bits .u32) (↑(List.getD C (i/(4:Nat)) (0:Nat)):Int) ||| BitVec.ofInt (IntKind.bits .u32) (↑y:Int))):Int))) = .c (.int .u32 ((↑(List.getD C (i/(4:Nat)) (0:Nat)+y):Int))) from ((orW gC hy2).trans (by rw [hor]))) (hP (pN (id:=(0:Nat)) (a:=(0:Nat)+i/(4:Nat)*(1:Nat)) (b:=i/(4:Nat)) (by omega)) (hP (show (0:Int)≤(↑(i/(4:Nat)):Int)∧(↑(i/(4:Nat)):Int) < (↑n:Int) by omega) (hP (show i/(4:Nat)+List.length [V.c (Value.int .u32 (↑(List.getD C (i/(4:Nat)) (0:Nat)+y):Int))]≤List.length (wc C) by simp only [wc_len,List.length_set,List.length_replicate,List.length_append,List.length_cons,List.length_nil]; omega) (hP (wrI (e:=(↑i:Int)+(1:Int)) (by omega)) hN))))))))))))))))) (flk wcs_f trivial)
theorem no_b {s:ByteArray} {C:List Nat} {n:Nat}   : TSpec Tryd.prog (loopOf Tryd.f46 0) (noS s (wc C) n s.size) (.exit 0) (noS s (wc C) n s.size):=by
 exact tspec_dim (mask 39 0 [0,3,12,13]) 1 (sc:=[(3,0,.is (.c (.bool false)))]) (sb:=[]) (by kernel_rfl) (hP (isB (show (decide ((↑(ByteArray.size s):Int) < (↑(ByteArray.size s):Int)))=false from df)) hN) (flk wc_f trivial)
theorem no_f {s:ByteArray} {C:List Nat} {n:Nat} (hn:n=(s.size+3)/4) (hs:s.size≤1099511627776) (hl:C.length=n) (hw:W32 C) (hb:TSpec Tryd.prog (.block 0 (.loop (loopOf Tryd.f46 0))) (noS s (List.replicate n (.c (.int .u32 0))) n 0) .normal (noS s (wc C) n s.size))  : FSpec Tryd.prog 46 [.c (.string s)] [] (vN (wv C)) []:=by
 exact fspec_ok Tryd.func46 (sc:=[(1,2,.is (.c (.int .i64 ((↑(ByteArray.size s):Int)+(3:Int))))),(1,3,.is (.c (.int .i64 (↑n:Int)))),(0,99999,.mask (mask 39 0 [0,3,12,13])),(8,10001,.conv [(37,vW C)]),(8,1,.data (V.dv false [dW (lim (wv C))]))]) (sb:=[(0,.normal,noS s (wc C) n s.size)]) (keep:=[]) (by kernel_rfl) (hP (flatB_flat (m:=[]) rfl) (hP (wrI (e:=(↑(ByteArray.size s):Int)+(3:Int)) (by omega)) (hP (show V.c (Value.int .i64 (IntKind.wrap .i64 (Int.tdiv ((↑(ByteArray.size s):Int)+(3:Int)) (4:Int)))) = .c (.int .i64 (↑n:Int)) from ((quoN (s:=s.size+3) (m:=4) (by omega)).trans (by rw [hn]))) (hP (show (0:Int)≤(↑n:Int)∧(↑n:Int)≤(↑n:Int)∧(4:Int)*(↑n:Int)≤(281474976710656:Int)∧(↑n:Int) < (9223372036854775808:Int) by omega) (hP (show Flat [some { own:=true,cells:=List.replicate (Int.toNat (↑n:Int)) (V.c (Value.int .u32 (0:Int))) }] from (flk frep trivial)) (hP (hb) (hP (show List.length C=n∧n≤n∧frz (Row.cells { own:=true,cells:=wc C }) (0:Nat) n (1:Nat) fun i x=>D.v (Value.int .u32 (↑(List.getD C i (0:Nat)):Int)) from (⟨hl,Nat.le_refl _,frz_wc hl.symm⟩)) (hF (trim_k hw (by omega)) hN))))))))
theorem tx_a {a l:List Nat} {i c:Nat} (hi:i/4 < a.length) (hi2:i < 4398046511104) (hL:l.length < 70368744177664) (hc:a.getD (i/4) 0/2^(8*(i%4))%256=c) (hc2:c < 256) (hl:0 < l.length)  : TSpecN Tryd.prog 0 (loopOf Tryd.f54 0) (txS a l ((i+1:Nat):Int)) (.normal) (txT a l c (i:Int)):=by
 exact tspecN_ren (mask 37 0 [0,3,4]) 0 [2] (sc:=[(3,1,.is (.c (.bool true))),(5,1,.is (.c (.int .i64 (↑i:Int)))),(5,2,.is (.c (.int .i64 ((↑(i/(4:Nat)):Int))))),(5,5,.is (.c (.int .i64 (↑i:Int)))),(5,6,.is (.c (.int .i64 ((↑(i%(4:Nat)):Int))))),(5,7,.is (.c (.int .i64 ((↑((8:Nat)*(i%(4:Nat))):Int))))),(5,8,.is (.c (.int .u32 ((↑(List.getD a (i/(4:Nat)) (0:Nat)/(2:Nat)^((8:Nat)*(i%(4:Nat)))):Int))))),(5,9,.is (.c (.int .u8 (↑c:Int)))),(6,2,.is (.c (.bool true))),(7,3,.app),(4,1,.is (.c (.int .i64 ((↑i:Int) - (1:Int)))))]) (sb:=[]) (by kernel_rfl) (hP (isB (show (decide ((0:Int)≤(↑(i+(1:Nat)):Int) - (1:Int)))=true from dt)) (hP (show V.c (Value.int .i64 ((↑(i+(1:Nat)):Int) - (1:Int))) = .c (.int .i64 (↑i:Int)) from (tI (by omega))) (hP (show V.c (Value.int .i64 (IntKind.wrap .i64 (Int.tdiv (↑i:Int) (4:Int)))) = .c (.int .i64 ((↑(i/(4:Nat)):Int))) from (quoN (m:=4) (by omega))) (hP (show (0:Int)≤(↑(i/(4:Nat)):Int)∧(↑(i/(4:Nat)):Int) < (↑(List.length a):Int) by omega) (hP (show V.c (Value.int .i64 ((↑(i+(1:Nat)):Int) - (1:Int))) = .c (.int .i64 (↑i:Int)) from (tI (by omega))) (hP (show V.c (Value.int .i64 (Int.tmod (↑i:Int) (4:Int))) = .c (.int .i64 ((↑(i%(4:Nat)):Int))) from (rfl)) (hP (show V.c (Value.int .i64 (IntKind.wrap .i64 ((↑(i%(4:Nat)):Int)*(8:Int)))) = .c (.int .i64 ((↑((8:Nat)*(i%(4:Nat))):Int))) from (wI (by omega))) (hP (show V.c (Value.int .u32 (Int.fdiv (↑(List.getD a (i/(4:Nat)) (0:Nat)):Int) ((2:Int)^min (Int.toNat (↑((8:Nat)*(i%(4:Nat))):Int)) (IntKind.bits .u32)))) = .c (.int .u32 ((↑(List.getD a (i/(4:Nat)) (0:Nat)/(2:Nat)^((8:Nat)*(i%(4:Nat)))):Int))) from (shrT (by omega))) (hP (show V.c (Value.int .u8 (IntKind.wrap .u8 (↑(List.getD a (i/(4:Nat)) (0:Nat)/(2:Nat)^((8:Nat)*(i%(4:Nat)))):Int))) = .c (.int .u8 (↑c:Int)) from (wB8 hc)) (hP (isB (show (decide ((0:Int) < (↑(List.length l):Int)))=true from dt)) (hP ((apB1 (l:=l) (c:=c))) (hP (show List.length l+(1:Nat)≤(9223372036854775807:Nat)∧(List.length l+(1:Nat))*(1:Nat)≤(140737488355328:Nat) by omega) (hP (show V.c (Value.int .i64 (IntKind.wrap .i64 ((↑(i+(1:Nat)):Int) - (1:Int) - (1:Int)))) = .c (.int .i64 ((↑i:Int) - (1:Int))) from (wI (by omega))) hN))))))))))))) (flk (flap bc_f rfl) trivial)
theorem tx_b {a l:List Nat} {i c:Nat} (hi:i/4 < a.length) (hi2:i < 4398046511104) (hL:l.length < 70368744177664) (hc:a.getD (i/4) 0/2^(8*(i%4))%256=c) (hc2:c < 256) (hl:l.length=0) (h0:0 < c)  : TSpecN Tryd.prog 0 (loopOf Tryd.f54 0) (txS a l ((i+1:Nat):Int)) (.normal) (txT a l c (i:Int)):=by
 exact tspecN_ren (mask 37 0 [0,3,4]) 0 [2] (sc:=[(3,1,.is (.c (.bool true))),(5,1,.is (.c (.int .i64 (↑i:Int)))),(5,2,.is (.c (.int .i64 ((↑(i/(4:Nat)):Int))))),(5,5,.is (.c (.int .i64 (↑i:Int)))),(5,6,.is (.c (.int .i64 ((↑(i%(4:Nat)):Int))))),(5,7,.is (.c (.int .i64 ((↑((8:Nat)*(i%(4:Nat))):Int))))),(5,8,.is (.c (.int .u32 ((↑(List.getD a (i/(4:Nat)) (0:Nat)/(2:Nat)^((8:Nat)*(i%(4:Nat)))):Int))))),(5,9,.is (.c (.int .u8 (↑c:Int)))),(6,2,.is (.c (.bool false))),(6,5,.is (.c (.bool true))),(7,3,.app),(4,1,.is (.c (.int .i64 ((↑i:Int) - (1:Int)))))]) (sb:=[]) (by kernel_rfl) (hP (isB (show (decide ((0:Int)≤(↑(i+(1:Nat)):Int) - (1:Int)))=true from dt)) (hP (show V.c (Value.int .i64 ((↑(i+(1:Nat)):Int) - (1:Int))) = .c (.int .i64 (↑i:Int)) from (tI (by omega))) (hP (show V.c (Value.int .i64 (IntKind.wrap .i64 (Int.tdiv (↑i:Int) (4:Int)))) = .c (.int .i64 ((↑(i/(4:Nat)):Int))) from (quoN (m:=4) (by omega))) (hP (show (0:Int)≤(↑(i/(4:Nat)):Int)∧(↑(i/(4:Nat)):Int) < (↑(List.length a):Int) by omega) (hP (show V.c (Value.int .i64 ((↑(i+(1:Nat)):Int) - (1:Int))) = .c (.int .i64 (↑i:Int)) from (tI (by omega))) (hP (show V.c (Value.int .i64 (Int.tmod (↑i:Int) (4:Int))) = .c (.int .i64 ((↑(i%(4:Nat)):Int))) from (rfl)) (hP (show V.c (Value.int .i64 (IntKind.wrap .i64 ((↑(i%(4:Nat)):Int)*(8:Int)))) = .c (.int .i64 ((↑((8:Nat)*(i%(4:Nat))):Int))) from (wI (by omega))) (hP (show V.c (Value.int .u32 (Int.fdiv (↑(List.getD a (i/(4:Nat)) (0:Nat)):Int) ((2:Int)^min (Int.toNat (↑((8:Nat)*(i%(4:Nat))):Int)) (IntKind.bits .u32)))) = .c (.int .u32 ((↑(List.getD a (i/(4:Nat)) (0:Nat)/(2:Nat)^((8:Nat)*(i%(4:Nat)))):Int))) from (shrT (by omega))) (hP (show V.c (Value.int .u8 (IntKind.wrap .u8 (↑(List.getD a (i/(4:Nat)) (0:Nat)/(2:Nat)^((8:Nat)*(i%(4:Nat)))):Int))) = .c (.int .u8 (↑c:Int)) from (wB8 hc)) (hP (isB (show (decide ((0:Int) < (↑(List.length l):Int)))=false from df)) (hP (isB (show (decide ((0:Int) < (↑c:Int)))=true from dt)) (hP ((apB1 (l:=l) (c:=c))) (hP (show List.length l+(1:Nat)≤(9223372036854775807:Nat)∧(List.length l+(1:Nat))*(1:Nat)≤(140737488355328:Nat) by omega) (hP (show V.c (Value.int .i64 (IntKind.wrap .i64 ((↑(i+(1:Nat)):Int) - (1:Int) - (1:Int)))) = .c (.int .i64 ((↑i:Int) - (1:Int))) from (wI (by omega))) hN)))))))))))))) (flk (flap bc_f rfl) trivial)
theorem tx_c {a l:List Nat} {i c:Nat} (hi:i/4 < a.length) (hi2:i < 4398046511104) (hL:l.length < 70368744177664) (hc:a.getD (i/4) 0/2^(8*(i%4))%256=c) (hc2:c < 256) (hl:l.length=0) (h0:c=0)  : TSpecN Tryd.prog 0 (loopOf Tryd.f54 0) (txS a l ((i+1:Nat):Int)) (.normal) (txS a l (i:Int)):=by
 exact tspecN_ren (mask 37 0 [0,3,4]) 0 [0] (sc:=[(3,1,.is (.c (.bool true))),(5,1,.is (.c (.int .i64 (↑i:Int)))),(5,2,.is (.c (.int .i64 ((↑(i/(4:Nat)):Int))))),(5,5,.is (.c (.int .i64 (↑i:Int)))),(5,6,.is (.c (.int .i64 ((↑(i%(4:Nat)):Int))))),(5,7,.is (.c (.int .i64 ((↑((8:Nat)*(i%(4:Nat))):Int))))),(5,8,.is (.c (.int .u32 ((↑(List.getD a (i/(4:Nat)) (0:Nat)/(2:Nat)^((8:Nat)*(i%(4:Nat)))):Int))))),(5,9,.is (.c (.int .u8 (↑c:Int)))),(6,2,.is (.c (.bool false))),(6,5,.is (.c (.bool false))),(4,1,.is (.c (.int .i64 ((↑i:Int) - (1:Int)))))]) (sb:=[]) (by kernel_rfl) (hP (isB (show (decide ((0:Int)≤(↑(i+(1:Nat)):Int) - (1:Int)))=true from dt)) (hP (show V.c (Value.int .i64 ((↑(i+(1:Nat)):Int) - (1:Int))) = .c (.int .i64 (↑i:Int)) from (tI (by omega))) (hP (show V.c (Value.int .i64 (IntKind.wrap .i64 (Int.tdiv (↑i:Int) (4:Int)))) = .c (.int .i64 ((↑(i/(4:Nat)):Int))) from (quoN (m:=4) (by omega))) (hP (show (0:Int)≤(↑(i/(4:Nat)):Int)∧(↑(i/(4:Nat)):Int) < (↑(List.length a):Int) by omega) (hP (show V.c (Value.int .i64 ((↑(i+(1:Nat)):Int) - (1:Int))) = .c (.int .i64 (↑i:Int)) from (tI (by omega))) (hP (show V.c (Value.int .i64 (Int.tmod (↑i:Int) (4:Int))) = .c (.int .i64 ((↑(i%(4:Nat)):Int))) from (rfl)) (hP (show V.c (Value.int .i64 (IntKind.wrap .i64 ((↑(i%(4:Nat)):Int)*(8:Int)))) = .c (.int .i64 ((↑((8:Nat)*(i%(4:Nat))):Int))) from (wI (by omega))) (hP (show V.c (Value.int .u32 (Int.fdiv (↑(List.getD a (i/(4:Nat)) (0:Nat)):Int) ((2:Int)^min (Int.toNat (↑((8:Nat)*(i%(4:Nat))):Int)) (IntKind.bits .u32)))) = .c (.int .u32 ((↑(List.getD a (i/(4:Nat)) (0:Nat)/(2:Nat)^((8:Nat)*(i%(4:Nat)))):Int))) from (shrT (by omega))) (hP (show V.c (Value.int .u8 (IntKind.wrap .u8 (↑(List.getD a (i/(4:Nat)) (0:Nat)/(2:Nat)^((8:Nat)*(i%(4:Nat)))):Int))) = .c (.int .u8 (↑c:Int)) from (wB8 hc)) (hP (isB (show (decide ((0:Int) < (↑(List.length l):Int)))=false from df)) (hP (isB (show (decide ((0:Int) < (↑c:Int)))=false from df)) (hP (show V.c (Value.int .i64 (IntKind.wrap .i64 ((↑(i+(1:Nat)):Int) - (1:Int) - (1:Int)))) = .c (.int .i64 ((↑i:Int) - (1:Int))) from (wI (by omega))) hN)))))))))))) (flk bc_f trivial)
theorem tx_e {a l:List Nat}   : TSpecN Tryd.prog 0 (loopOf Tryd.f54 0) (txS a l 0) (.exit 0) (txS a l 0):=by
 exact tspecN_ren (mask 37 0 [0,3,4]) 0 [0] (sc:=[]) (sb:=[]) (by kernel_rfl) hN (flk bc_f trivial)
theorem tx_f {a l:List Nat} {str:ByteArray} (ha:a.length≤1099511627776) (hs:str=strOfNums (l.map Int.ofNat)) (hb:TSpecN Tryd.prog 0 (.block 0 (.loop (loopOf Tryd.f54 0))) (txS a [] ((4*a.length:Nat):Int)) .normal (txS a l 0))  : FSpec Tryd.prog 54 [vW a] [] (.c (.string str)) []:=by
 exact fspec_ok Tryd.func54 (sc:=[(2,99998,.conv [(3,V.gr (0:Nat) (0:Nat) (1:Nat))]),(2,2,.is (.c (.int .i64 ((↑((4:Nat)*List.length a):Int))))),(2,3,.is (.c (.int .i64 ((↑((4:Nat)*List.length a):Int) - (1:Int))))),(0,99999,.maskN (mask 37 0 [0,3,4])),(8,1,.fix (.string str))]) (sb:=[(0,.normal,txS a l 0)]) (keep:=[]) (by kernel_rfl) (hP (flatB_flat (m:=[]) rfl) (hP (show V.c (Value.int .i64 (IntKind.wrap .i64 ((↑(List.length a):Int)*(4:Int)))) = .c (.int .i64 ((↑((4:Nat)*List.length a):Int))) from (wI (by omega))) (hP (wrI (e:=(↑((4:Nat)*List.length a):Int) - (1:Int)) (by omega)) (hP (show Flat [some ⟨Bool.false,nv []⟩] from (flk rfl trivial)) (hP (hb) (hP (strL (o:=!l.isEmpty) hs) hN))))))
theorem mkr_den {z:Int} {d:Nat} (hd:d≠0):(mkRat z d).den=d/Nat.gcd z.natAbs d:=by
 rw [← Rat.normalize_eq_mkRat hd,Rat.den_normalize]
theorem mkr_num {z:Int} {d:Nat} (hd:d≠0):(mkRat z d).num=z/(Nat.gcd z.natAbs d:Nat):=by
 rw [← Rat.normalize_eq_mkRat hd,Rat.num_normalize]
theorem mkr_abs {neg:Bool} {n d:Nat} (hd:d≠0):(mkRat (sgn neg n) d).num.natAbs=n/Nat.gcd n d:=by
 rw [mkr_num hd,sgn_abs,Int.natAbs_ediv_of_dvd,sgn_abs]
 ·rfl
 exact Int.ofNat_dvd_left.2 (by rw [sgn_abs]; exact Nat.gcd_dvd_left _ _)
theorem mkr_neg {neg:Bool} {n d:Nat} (hd:d≠0) (hn:n≠0):decide ((mkRat (sgn neg n) d).num < 0)=neg:=by
 have hg:0 < Nat.gcd n d:=Nat.gcd_pos_of_pos_left _ (by omega)
 rw [mkr_num hd,sgn_abs]
 cases neg with
 | true =>
   refine decide_eq_true ?_
   have:sgn true n = -(n:Int):=rfl
   rw [this]
   exact Int.ediv_neg_of_neg_of_pos (by omega) (by omega)
 | false =>
   refine decide_eq_false ?_
   have:sgn false n=(n:Int):=rfl
   rw [this]
   have:=Int.ediv_nonneg (a:=(n:Int)) (b:=((Nat.gcd n d:Nat):Int)) (by omega) (by omega)
   omega
theorem dQ_mk {neg:Bool} {n d:Nat} (hd:d≠0) (hn:n≠0):dQ (mkRat (sgn neg n) d)=[.v (.bool neg),dW (lim (n/Nat.gcd n d)),dW (lim (d/Nat.gcd n d))]:=by
 unfold dQ
 rw [mkr_neg hd hn,mkr_abs hd,mkr_den hd,sgn_abs]
theorem made_0 {neg:Bool} {n d K:Nat} (hn:Nw n K) (hd:Nw d K) (hK:K≤8589934591) (hd0:d≠0):FSpec Tryd.prog 56 [.c (.bool neg),vN n,vN d] [] (vQ (mkRat (sgn neg n) d)) []:=by
 by_cases h0:n=0
 ·subst h0
  have e:mkRat (sgn neg 0) d=0:=by
   have:sgn neg 0=0:=by cases neg<;>rfl
   rw [this,Rat.zero_mkRat]
  rw [e]
  exact md_z (by rw [lim_zero]; rfl)
 have hl:(lim n).length≠0:=fun e=>h0 (lim_nil.1 (List.eq_nil_of_length_eq_zero e))
 rw [show vQ (mkRat (sgn neg n) d) = .dv true (dQ (mkRat (sgn neg n) d)) from rfl,dQ_mk hd0 h0]
 have hg0:Nat.gcd n d≠0:=Nat.ne_of_gt (Nat.gcd_pos_of_pos_left _ (by omega))
 have hgk:Nw (Nat.gcd n d) K:=nw_le hn (Nat.gcd_le_left _ (by omega))
 generalize hg:Nat.gcd n d=g at hg0 hgk
 by_cases h1:g=1
 ·subst h1
  rw [Nat.div_one,Nat.div_one]
  exact md_a hl hn hd hK hg (by rw [lim_one]; rfl) (by rw [lim_one]; rfl)
 by_cases h2:1 < (lim g).length
 ·exact md_b hl hn hd hK hg hgk hg0 h2
 have h3:(lim g).length=1:=by
  have:(lim g).length≠0:=fun e=>hg0 (lim_nil.1 (List.eq_nil_of_length_eq_zero e))
  omega
 refine md_c hl hn hd hK hg hgk hg0 h3 ?_
 have e:g=(lim g).getD 0 0:=by
  conv=>lhs; rw [← wv_lim g]
  match hq:lim g,h3 with
  | [x],_=>simp [wv]
 omega
theorem made_k {neg:Bool} {n d K L:Nat} (hn:Nw n K) (hd:Nw d L) (hK:K+L≤8589934591) (hd0:d≠0):FSpec Tryd.prog 56 [.c (.bool neg),vN n,vN d] [] (vQ (mkRat (sgn neg n) d)) []:=made_0 (nw_mono hn (Nat.le_add_right _ _)) (nw_mono hd (Nat.le_add_left _ _)) hK hd0
theorem nw_256 {n K:Nat} (h:n < 256^K):Nw n K:=nw_of (Nat.lt_of_lt_of_le h (Nat.pow_le_pow_left (by decide) K))
theorem szn_s {x:Rat} {K:Nat} (h:Sz x K):Nw x.num.natAbs K:=nw_256 h.1
theorem szd_s {x:Rat} {K:Nat} (h:Sz x K):Nw x.den K:=nw_256 h.2
theorem nwmul_s {a b K L:Nat} (ha:Nw a K) (hb:Nw b L):Nw (a*b) (K+L):=nw_of (by
 rw [Nat.pow_add]
 exact Nat.mul_lt_mul'' (nw_lt ha) (nw_lt hb))
theorem nwadd_s {a b K L:Nat} (ha:Nw a K) (hb:Nw b L):Nw (a+b) (K+L+1):=nw_of (by
 have h1:=nw_lt (nw_mono ha (show K≤K+L by omega))
 have h2:=nw_lt (nw_mono hb (show L≤K+L by omega))
 rw [Nat.pow_succ]
 omega)
theorem nwsub_s {a b K:Nat} (ha:Nw a K):Nw (a - b) K:=nw_le ha (Nat.sub_le _ _)
theorem den0_s {x:Rat}:x.den≠0:=x.den_nz
theorem mul0_s {a b:Nat} (ha:a≠0) (hb:b≠0):a*b≠0:=Nat.mul_ne_zero ha hb
theorem num0_s {x:Rat} (h:x≠0):x.num.natAbs≠0:=fun e=>h (Rat.num_eq_zero.1 (Int.natAbs_eq_zero.1 e))
theorem nw1_s:Nw 1 1:=nw_one
theorem qa_e {x y:Rat} {K L:Nat} (hx:Sz x K) (hy:Sz y L) (hs:K+L≤2147483647) (h4:(decide (Rat.num x < (0:Int))==decide (Rat.num y < (0:Int)))=true):FSpec Tryd.prog 28 [vQ x,vQ y] [] (V.dv true [D.v (Value.bool (decide (Rat.num (mkRat (sgn (decide (Rat.num x < (0:Int))) (Int.natAbs (Rat.num x)*Rat.den y+Int.natAbs (Rat.num y)*Rat.den x)) (Rat.den x*Rat.den y)) < (0:Int)))),dW (lim (Int.natAbs (Rat.num (mkRat (sgn (decide (Rat.num x < (0:Int))) (Int.natAbs (Rat.num x)*Rat.den y+Int.natAbs (Rat.num y)*Rat.den x)) (Rat.den x*Rat.den y))))),dW (lim (Rat.den (mkRat (sgn (decide (Rat.num x < (0:Int))) (Int.natAbs (Rat.num x)*Rat.den y+Int.natAbs (Rat.num y)*Rat.den x)) (Rat.den x*Rat.den y))))]) []:=by
 have s0:=(szn_s hx)
 have s1:=(szd_s hy)
 have s2:=(szn_s hy)
 have s3:=(szd_s hx)
 have s5:=(nwmul_s s0 s1)
 have s6:=(nwmul_s s2 s3)
 have s7:=(nwadd_s s5 s6)
 have s8:=(nwmul_s s3 s1)
 have s9:=(den0_s (x:=x))
 have s10:=(den0_s (x:=y))
 have s11:=(mul0_s s9 s10)
 exact fspec_ok Tryd.func28 (sc:=[(1,4,.data (V.dv false [dW (lim (Int.natAbs (Rat.num x)*Rat.den y))])),(1,9,.data (V.dv false [dW (lim (Int.natAbs (Rat.num y)*Rat.den x))])),(2,4,.data (V.dv false [dW (lim (Rat.den x*Rat.den y))])),(3,4,.is (.c (.bool true))),(4,4,.data (V.dv false [dW (lim (Int.natAbs (Rat.num x)*Rat.den y+Int.natAbs (Rat.num y)*Rat.den x))])),(4,6,.data (V.dv true (dQ (mkRat (sgn (decide (Rat.num x < (0:Int))) (Int.natAbs (Rat.num x)*Rat.den y+Int.natAbs (Rat.num y)*Rat.den x)) (Rat.den x*Rat.den y)))))]) (sb:=[]) (keep:=[]) (by kernel_rfl) (hP (flatB_flat (m:=[]) rfl) (hF (mulNat_k s0 s1 (by omega)) (hF (mulNat_k s2 s3 (by omega)) (hF (mulNat_k s3 s1 (by omega)) (hP (isB h4) (hF (addNat_k s5 s6 (by omega)) (hF (made_k (neg:=decide (Rat.num x < (0:Int))) s7 s8 (by omega) s11) hN)))))))
theorem qa_g {x y:Rat} {K L:Nat} (hx:Sz x K) (hy:Sz y L) (hs:K+L≤2147483647) (hc:0≤cmpN (x.num.natAbs*y.den) (y.num.natAbs*x.den)) (hle:y.num.natAbs*x.den≤x.num.natAbs*y.den) (h4:(decide (Rat.num x < (0:Int))==decide (Rat.num y < (0:Int)))=false):FSpec Tryd.prog 28 [vQ x,vQ y] [] (V.dv true [D.v (Value.bool (decide (Rat.num (mkRat (sgn (decide (Rat.num x < (0:Int))) (Int.natAbs (Rat.num x)*Rat.den y - Int.natAbs (Rat.num y)*Rat.den x)) (Rat.den x*Rat.den y)) < (0:Int)))),dW (lim (Int.natAbs (Rat.num (mkRat (sgn (decide (Rat.num x < (0:Int))) (Int.natAbs (Rat.num x)*Rat.den y - Int.natAbs (Rat.num y)*Rat.den x)) (Rat.den x*Rat.den y))))),dW (lim (Rat.den (mkRat (sgn (decide (Rat.num x < (0:Int))) (Int.natAbs (Rat.num x)*Rat.den y - Int.natAbs (Rat.num y)*Rat.den x)) (Rat.den x*Rat.den y))))]) []:=by
 have s0:=(szn_s hx)
 have s1:=(szd_s hy)
 have s2:=(szn_s hy)
 have s3:=(szd_s hx)
 have s5:=(nwmul_s s0 s1)
 have s6:=(nwmul_s s2 s3)
 have s7:=(nwsub_s (b:=Int.natAbs (Rat.num y)*Rat.den x) s5)
 have s8:=(nwmul_s s3 s1)
 have s9:=(den0_s (x:=x))
 have s10:=(den0_s (x:=y))
 have s11:=(mul0_s s9 s10)
 exact fspec_ok Tryd.func28 (sc:=[(1,4,.data (V.dv false [dW (lim (Int.natAbs (Rat.num x)*Rat.den y))])),(1,9,.data (V.dv false [dW (lim (Int.natAbs (Rat.num y)*Rat.den x))])),(2,4,.data (V.dv false [dW (lim (Rat.den x*Rat.den y))])),(3,4,.is (.c (.bool false))),(5,2,.data (.c (.int .i64 (cmpN (Int.natAbs (Rat.num x)*Rat.den y) (Int.natAbs (Rat.num y)*Rat.den x))))),(5,3,.is (.c (.bool true))),(6,4,.data (V.dv false [dW (lim (Int.natAbs (Rat.num x)*Rat.den y - Int.natAbs (Rat.num y)*Rat.den x))])),(6,6,.data (V.dv true (dQ (mkRat (sgn (decide (Rat.num x < (0:Int))) (Int.natAbs (Rat.num x)*Rat.den y - Int.natAbs (Rat.num y)*Rat.den x)) (Rat.den x*Rat.den y)))))]) (sb:=[]) (keep:=[]) (by kernel_rfl) (hP (flatB_flat (m:=[]) rfl) (hF (mulNat_k s0 s1 (by omega)) (hF (mulNat_k s2 s3 (by omega)) (hF (mulNat_k s3 s1 (by omega)) (hP (isB h4) (hF (cmpNat_k s5 s6 (by omega)) (hP (isB (show (decide ((0:Int)≤cmpN (Int.natAbs (Rat.num x)*Rat.den y) (Int.natAbs (Rat.num y)*Rat.den x)))=true from dt)) (hF (subNat_k s5 (by omega) hle) (hF (made_k (neg:=decide (Rat.num x < (0:Int))) s7 s8 (by omega) s11) hN)))))))))
theorem qa_l {x y:Rat} {K L:Nat} (hx:Sz x K) (hy:Sz y L) (hs:K+L≤2147483647) (hc:cmpN (x.num.natAbs*y.den) (y.num.natAbs*x.den) < 0) (hle:x.num.natAbs*y.den≤y.num.natAbs*x.den) (h4:(decide (Rat.num x < (0:Int))==decide (Rat.num y < (0:Int)))=false):FSpec Tryd.prog 28 [vQ x,vQ y] [] (V.dv true [D.v (Value.bool (decide (Rat.num (mkRat (sgn (decide (Rat.num y < (0:Int))) (Int.natAbs (Rat.num y)*Rat.den x - Int.natAbs (Rat.num x)*Rat.den y)) (Rat.den x*Rat.den y)) < (0:Int)))),dW (lim (Int.natAbs (Rat.num (mkRat (sgn (decide (Rat.num y < (0:Int))) (Int.natAbs (Rat.num y)*Rat.den x - Int.natAbs (Rat.num x)*Rat.den y)) (Rat.den x*Rat.den y))))),dW (lim (Rat.den (mkRat (sgn (decide (Rat.num y < (0:Int))) (Int.natAbs (Rat.num y)*Rat.den x - Int.natAbs (Rat.num x)*Rat.den y)) (Rat.den x*Rat.den y))))]) []:=by
 have s0:=(szn_s hx)
 have s1:=(szd_s hy)
 have s2:=(szn_s hy)
 have s3:=(szd_s hx)
 have s5:=(nwmul_s s0 s1)
 have s6:=(nwmul_s s2 s3)
 have s7:=(nwsub_s (b:=Int.natAbs (Rat.num x)*Rat.den y) s6)
 have s8:=(nwmul_s s3 s1)
 have s9:=(den0_s (x:=x))
 have s10:=(den0_s (x:=y))
 have s11:=(mul0_s s9 s10)
 exact fspec_ok Tryd.func28 (sc:=[(1,4,.data (V.dv false [dW (lim (Int.natAbs (Rat.num x)*Rat.den y))])),(1,9,.data (V.dv false [dW (lim (Int.natAbs (Rat.num y)*Rat.den x))])),(2,4,.data (V.dv false [dW (lim (Rat.den x*Rat.den y))])),(3,4,.is (.c (.bool false))),(5,2,.data (.c (.int .i64 (cmpN (Int.natAbs (Rat.num x)*Rat.den y) (Int.natAbs (Rat.num y)*Rat.den x))))),(5,3,.is (.c (.bool false))),(7,4,.data (V.dv false [dW (lim (Int.natAbs (Rat.num y)*Rat.den x - Int.natAbs (Rat.num x)*Rat.den y))])),(7,6,.data (V.dv true (dQ (mkRat (sgn (decide (Rat.num y < (0:Int))) (Int.natAbs (Rat.num y)*Rat.den x - Int.natAbs (Rat.num x)*Rat.den y)) (Rat.den x*Rat.den y)))))]) (sb:=[]) (keep:=[]) (by kernel_rfl) (hP (flatB_flat (m:=[]) rfl) (hF (mulNat_k s0 s1 (by omega)) (hF (mulNat_k s2 s3 (by omega)) (hF (mulNat_k s3 s1 (by omega)) (hP (isB h4) (hF (cmpNat_k s5 s6 (by omega)) (hP (isB (show (decide ((0:Int)≤cmpN (Int.natAbs (Rat.num x)*Rat.den y) (Int.natAbs (Rat.num y)*Rat.den x)))=false from df)) (hF (subNat_k s6 (by omega) hle) (hF (made_k (neg:=decide (Rat.num y < (0:Int))) s7 s8 (by omega) s11) hN)))))))))
theorem qm {x y:Rat} {K L:Nat} (hx:Sz x K) (hy:Sz y L) (hs:K+L≤2147483647)  : FSpec Tryd.prog 30 [vQ x,vQ y] [] (V.dv true [D.v (Value.bool (decide (Rat.num (mkRat (sgn (decide (Rat.num x < (0:Int)) != decide (Rat.num y < (0:Int))) (Int.natAbs (Rat.num x)*Int.natAbs (Rat.num y))) (Rat.den x*Rat.den y)) < (0:Int)))),dW (lim (Int.natAbs (Rat.num (mkRat (sgn (decide (Rat.num x < (0:Int)) != decide (Rat.num y < (0:Int))) (Int.natAbs (Rat.num x)*Int.natAbs (Rat.num y))) (Rat.den x*Rat.den y))))),dW (lim (Rat.den (mkRat (sgn (decide (Rat.num x < (0:Int)) != decide (Rat.num y < (0:Int))) (Int.natAbs (Rat.num x)*Int.natAbs (Rat.num y))) (Rat.den x*Rat.den y))))]) []:=by
 have s0:=(szn_s hx)
 have s1:=(szn_s hy)
 have s2:=(szd_s hx)
 have s3:=(szd_s hy)
 have s4:=(nwmul_s s0 s1)
 have s5:=(nwmul_s s2 s3)
 have s6:=(den0_s (x:=x))
 have s7:=(den0_s (x:=y))
 have s8:=(mul0_s s6 s7)
 exact fspec_ok Tryd.func30 (sc:=[(1,9,.data (V.dv false [dW (lim (Int.natAbs (Rat.num x)*Int.natAbs (Rat.num y)))])),(1,14,.data (V.dv false [dW (lim (Rat.den x*Rat.den y))])),(1,15,.data (V.dv true (dQ (mkRat (sgn (decide (Rat.num x < (0:Int)) != decide (Rat.num y < (0:Int))) (Int.natAbs (Rat.num x)*Int.natAbs (Rat.num y))) (Rat.den x*Rat.den y)))))]) (sb:=[]) (keep:=[]) (by kernel_rfl) (hP (flatB_flat (m:=[]) rfl) (hF (mulNat_k s0 s1 (by omega)) (hF (mulNat_k s2 s3 (by omega)) (hF (made_k (neg:=decide (Rat.num x < (0:Int)) != decide (Rat.num y < (0:Int))) s4 s5 (by omega) s8) hN))))
theorem qd {x y:Rat} {K L:Nat} (hx:Sz x K) (hy:Sz y L) (hs:K+L≤2147483647) (hz:y≠0)  : FSpec Tryd.prog 32 [vQ x,vQ y] [] (V.dv true [D.v (Value.bool (decide (Rat.num (mkRat (sgn (decide (Rat.num x < (0:Int)) != decide (Rat.num y < (0:Int))) (Int.natAbs (Rat.num x)*Rat.den y)) (Rat.den x*Int.natAbs (Rat.num y))) < (0:Int)))),dW (lim (Int.natAbs (Rat.num (mkRat (sgn (decide (Rat.num x < (0:Int)) != decide (Rat.num y < (0:Int))) (Int.natAbs (Rat.num x)*Rat.den y)) (Rat.den x*Int.natAbs (Rat.num y)))))),dW (lim (Rat.den (mkRat (sgn (decide (Rat.num x < (0:Int)) != decide (Rat.num y < (0:Int))) (Int.natAbs (Rat.num x)*Rat.den y)) (Rat.den x*Int.natAbs (Rat.num y)))))]) []:=by
 have s0:=(szn_s hx)
 have s1:=(szd_s hy)
 have s2:=(szd_s hx)
 have s3:=(szn_s hy)
 have s4:=(nwmul_s s0 s1)
 have s5:=(nwmul_s s2 s3)
 have s6:=(den0_s (x:=x))
 have s7:=(num0_s hz)
 have s8:=(mul0_s s6 s7)
 exact fspec_ok Tryd.func32 (sc:=[(1,9,.data (V.dv false [dW (lim (Int.natAbs (Rat.num x)*Rat.den y))])),(1,14,.data (V.dv false [dW (lim (Rat.den x*Int.natAbs (Rat.num y)))])),(1,15,.data (V.dv true (dQ (mkRat (sgn (decide (Rat.num x < (0:Int)) != decide (Rat.num y < (0:Int))) (Int.natAbs (Rat.num x)*Rat.den y)) (Rat.den x*Int.natAbs (Rat.num y))))))]) (sb:=[]) (keep:=[]) (by kernel_rfl) (hP (flatB_flat (m:=[]) rfl) (hF (mulNat_k s0 s1 (by omega)) (hF (mulNat_k s2 s3 (by omega)) (hF (made_k (neg:=decide (Rat.num x < (0:Int)) != decide (Rat.num y < (0:Int))) s4 s5 (by omega) s8) hN))))
theorem qn_a {x:Rat} {K:Nat} (hx:Sz x K) (hs:K≤2147483647) (h0:decide ((0:Int) < (↑(List.length (lim (Int.natAbs (Rat.num x)))):Int))=true):FSpec Tryd.prog 60 [vQ x] [] (V.dv true [D.v (Value.bool !decide (Rat.num x < (0:Int))),dW (lim (Int.natAbs (Rat.num x))),dW (lim (Rat.den x))]) []:=by
 exact fspec_ok Tryd.func60 (sc:=[(1,3,.is (.c (.bool true)))]) (sb:=[]) (keep:=[]) (by kernel_rfl) (hP (flatB_flat (m:=[]) rfl) (hP (isB h0) hN))
theorem qn_b {x:Rat} {K:Nat} (hx:Sz x K) (hs:K≤2147483647) (h0:decide ((0:Int) < (↑(List.length (lim (Int.natAbs (Rat.num x)))):Int))=false):FSpec Tryd.prog 60 [vQ x] [] (V.dv true [D.v (Value.bool false),dW (lim (Int.natAbs (Rat.num x))),dW (lim (Rat.den x))]) []:=by
 exact fspec_ok Tryd.func60 (sc:=[(1,3,.is (.c (.bool false)))]) (sb:=[]) (keep:=[]) (by kernel_rfl) (hP (flatB_flat (m:=[]) rfl) (hP (isB h0) hN))
theorem qs_a {x:Rat} {K:Nat} (hx:Sz x K) (hs:K≤2147483647) (h0:decide ((↑(List.length (lim (Int.natAbs (Rat.num x)))):Int)=(0:Int))=true):FSpec Tryd.prog 41 [vQ x] [] (.c (.int .i64 (0:Int))) []:=by
 exact fspec_ok Tryd.func41 (sc:=[(1,3,.is (.c (.bool true)))]) (sb:=[]) (keep:=[]) (by kernel_rfl) (hP (flatB_flat (m:=[]) rfl) (hP (isB h0) hN))
theorem qs_b {x:Rat} {K:Nat} (hx:Sz x K) (hs:K≤2147483647) (h0:decide ((↑(List.length (lim (Int.natAbs (Rat.num x)))):Int)=(0:Int))=false) (h1:decide (Rat.num x < (0:Int))=true):FSpec Tryd.prog 41 [vQ x] [] (.c (.int .i64 (-1:Int))) []:=by
 exact fspec_ok Tryd.func41 (sc:=[(1,3,.is (.c (.bool false))),(3,1,.is (.c (.bool true)))]) (sb:=[]) (keep:=[]) (by kernel_rfl) (hP (flatB_flat (m:=[]) rfl) (hP (isB h0) (hP (isB h1) hN)))
theorem qs_c {x:Rat} {K:Nat} (hx:Sz x K) (hs:K≤2147483647) (h0:decide ((↑(List.length (lim (Int.natAbs (Rat.num x)))):Int)=(0:Int))=false) (h1:decide (Rat.num x < (0:Int))=false):FSpec Tryd.prog 41 [vQ x] [] (.c (.int .i64 (1:Int))) []:=by
 exact fspec_ok Tryd.func41 (sc:=[(1,3,.is (.c (.bool false))),(3,1,.is (.c (.bool false)))]) (sb:=[]) (keep:=[]) (by kernel_rfl) (hP (flatB_flat (m:=[]) rfl) (hP (isB h0) (hP (isB h1) hN)))
end Go.Proofs.YtmkgijiniopalaaDoor.G
end
section
namespace Go.Proofs.YtmkgijiniopalaaDoor.G
open Go.Proofs.YtmkgijiniopalaaDoor.U Go.RowKit
theorem sgn_subL {s:Bool} {m n:Nat} (h:n≤m):sgn s (m - n)=sgn s m - sgn s n:=by
 cases s<;>simp only [sgn,Bool.false_eq_true,if_false,if_true]<;>omega
theorem sgn_addL {s:Bool} {m n:Nat}:sgn s (m+n)=sgn s m+sgn s n:=by
 cases s<;>simp only [sgn,Bool.false_eq_true,if_false,if_true]<;>omega
theorem sgn_mulR (s:Bool) (k e:Nat):sgn s (k*e)=sgn s k*(e:Int):=by cases s<;>simp [sgn,Int.neg_mul]
theorem sgn_notL (s:Bool) (k:Nat):sgn (!s) k = -sgn s k:=by cases s<;>simp [sgn]
theorem bne_not {a b:Bool} (h:(a==b)=false):b = !a:=by cases a<;>cases b<;>simp_all
theorem beq_t {a b:Bool} (h:(a==b)=true):b=a:=by cases a<;>cases b<;>simp_all
section
variable {x y:Rat} {K L:Nat}
theorem mad_e (h:(decide (x.num < 0)==decide (y.num < 0))=true):mkRat (sgn (decide (x.num < 0)) (x.num.natAbs*y.den+y.num.natAbs*x.den)) (x.den*y.den)=x+y:=by
 have e2:=sgn_num y
 rw [beq_t h] at e2
 rw [sgn_addL,sgn_mulR,sgn_mulR,sgn_num,e2,Rat.add_def']
theorem mad_g (h:(decide (x.num < 0)==decide (y.num < 0))=false) (hl:y.num.natAbs*x.den≤x.num.natAbs*y.den):mkRat (sgn (decide (x.num < 0)) (x.num.natAbs*y.den - y.num.natAbs*x.den)) (x.den*y.den)=x+y:=by
 have e2:=sgn_num y
 rw [bne_not h,sgn_notL] at e2
 have e3:sgn (decide (x.num < 0)) y.num.natAbs = -y.num:=by omega
 rw [sgn_subL hl,sgn_mulR,sgn_mulR,sgn_num,Rat.add_def',e3,Int.neg_mul,Int.sub_neg]
theorem mad_l (h:(decide (x.num < 0)==decide (y.num < 0))=false) (hl:x.num.natAbs*y.den≤y.num.natAbs*x.den):mkRat (sgn (decide (y.num < 0)) (y.num.natAbs*x.den - x.num.natAbs*y.den)) (x.den*y.den)=x+y:=by
 have e2:=sgn_num x
 have h':(decide (y.num < 0)==decide (x.num < 0))=false:=by rw [Bool.beq_comm]; exact h
 rw [bne_not h',sgn_notL] at e2
 have e3:sgn (decide (y.num < 0)) x.num.natAbs = -x.num:=by omega
 rw [sgn_subL hl,sgn_mulR,sgn_mulR,sgn_num,Rat.add_def',e3,Int.neg_mul,Int.sub_neg,Int.add_comm]
theorem mmu:mkRat (sgn (decide (x.num < 0) != decide (y.num < 0)) (x.num.natAbs*y.num.natAbs)) (x.den*y.den)=x*y:=by
 rw [sgn_mul,sgn_num,sgn_num,Rat.mul_def']
theorem mdi (h0:y≠0):mkRat (sgn (decide (x.num < 0) != decide (y.num < 0)) (x.num.natAbs*y.den)) (x.den*y.num.natAbs)=x/y:=by
 have yn:y.num≠0:=fun h=>h0 (Rat.num_eq_zero.1 h)
 rw [Rat.div_def,Rat.mul_def',Rat.num_inv,Rat.den_inv,if_neg yn,sgn_mul,sgn_num]
 congr 2
 rcases Int.lt_or_gt_of_ne yn with h | h
 ·rw [Int.sign_eq_neg_one_of_neg h]; simp [sgn,h]
 rw [Int.sign_eq_one_of_pos h]; simp [sgn,Int.not_lt.2 (Int.le_of_lt h)]
theorem qAdd_k (hx:Sz x K) (hy:Sz y L) (hs:K+L≤2147483647):FSpec Tryd.prog 28 [vQ x,vQ y] [] (vQ (x+y)) []:=by
 match h:(decide (x.num < 0)==decide (y.num < 0)) with
 | true=>rw [← mad_e h]; exact qa_e hx hy hs h
 | false =>
   have hc:=cmpN_ge (a:=x.num.natAbs*y.den) (b:=y.num.natAbs*x.den)
   by_cases hl:y.num.natAbs*x.den≤x.num.natAbs*y.den
   ·rw [← mad_g h hl]; exact qa_g hx hy hs (hc.2 hl) hl h
   have hl':x.num.natAbs*y.den≤y.num.natAbs*x.den:=by omega
   rw [← mad_l h hl']; exact qa_l hx hy hs (by have:=mt hc.1 hl; omega) hl' h
theorem qMul_k (hx:Sz x K) (hy:Sz y L) (hs:K+L≤2147483647):FSpec Tryd.prog 30 [vQ x,vQ y] [] (vQ (x*y)) []:=by
 rw [← mmu]; exact qm hx hy hs
theorem qDiv_k (hx:Sz x K) (hy:Sz y L) (hs:K+L≤2147483647) (hz:y≠0):FSpec Tryd.prog 32 [vQ x,vQ y] [] (vQ (x/y)) []:=by
 rw [← mdi hz]; exact qd hx hy hs hz
theorem qNeg_k (hx:Sz x K) (hs:K≤2147483647):FSpec Tryd.prog 60 [vQ x] [] (vQ (-x)) []:=by
 have e:vQ (-x)=V.dv true [D.v (.bool (decide (-x.num < 0))),dW (lim x.num.natAbs),dW (lim x.den)]:=by
  show V.dv true (dQ (-x))=_
  unfold dQ
  rw [Rat.neg_num,Rat.neg_den,Int.natAbs_neg]
 rw [e]
 by_cases h0:x.num=0
 ·have:(lim x.num.natAbs).length=0:=by rw [h0]; show (lim 0).length=0; rw [lim_zero]; rfl
  have h:=qn_b hx hs (df)
  rw [show decide (-x.num < 0)=false by rw [h0]; rfl]
  exact h
 have hl:(lim x.num.natAbs).length≠0:=fun e=>h0 (Int.natAbs_eq_zero.1 (lim_nil.1 (List.eq_nil_of_length_eq_zero e)))
 have h:=qn_a hx hs (dt)
 rw [show decide (-x.num < 0) = !decide (x.num < 0) by
  by_cases hn:x.num < 0
  ·rw [decide_eq_true hn,df]; rfl
  rw [decide_eq_false hn,dt]; rfl]
 exact h
theorem qSign_k (hx:Sz x K) (hs:K≤2147483647):FSpec Tryd.prog 41 [vQ x] [] (.c (.int .i64 x.num.sign)) []:=by
 by_cases h0:x.num=0
 ·have:(lim x.num.natAbs).length=0:=by rw [h0]; show (lim 0).length=0; rw [lim_zero]; rfl
  rw [h0]
  exact qs_a hx hs (dt)
 have hl:(lim x.num.natAbs).length≠0:=fun e=>h0 (Int.natAbs_eq_zero.1 (lim_nil.1 (List.eq_nil_of_length_eq_zero e)))
 by_cases hn:x.num < 0
 ·rw [Int.sign_eq_neg_one_of_neg hn]
  exact qs_b hx hs (df) (decide_eq_true hn)
 rw [Int.sign_eq_one_of_pos (by omega)]
 exact qs_c hx hs (df) (decide_eq_false hn)
end
end Go.Proofs.YtmkgijiniopalaaDoor.G
end
section
namespace Go.Proofs.YtmkgijiniopalaaDoor.G
open Go.Proofs.YtmkgijiniopalaaDoor.U Go.RowKit
theorem qsu {x y:Rat} {K L:Nat} (hx:Sz x K) (hy:Sz y L) (hs:K+L≤1000000000)  : FSpec Tryd.prog 29 [vQ x,vQ y] [] (V.dv true [D.v (Value.bool (decide (Rat.num (x + -y) < (0:Int)))),dW (lim (Int.natAbs (Rat.num (x + -y)))),dW (lim (Rat.den (x + -y)))]) []:=by
 have s0:=(neg_s hy)
 exact fspec_ok Tryd.func29 (sc:=[(1,2,.data (V.dv true (dQ (-y)))),(1,3,.data (V.dv true (dQ (x + -y))))]) (sb:=[]) (keep:=[]) (by kernel_rfl) (hP (flatB_flat (m:=[]) rfl) (hF (qNeg_k hy (by omega)) (hF (qAdd_k hx s0 (by omega)) hN)))
theorem qSub_k {x y:Rat} {K L:Nat} (hx:Sz x K) (hy:Sz y L) (hs:K+L≤1000000000):FSpec Tryd.prog 29 [vQ x,vQ y] [] (vQ (x - y)) []:=by
 rw [Rat.sub_eq_add_neg]
 exact qsu hx hy hs
theorem qcm {x y:Rat} {K L:Nat} (hx:Sz x K) (hy:Sz y L) (hs:K+L≤1000000000)  : FSpec Tryd.prog 44 [vQ x,vQ y] [] (.c (.int .i64 (Int.sign (Rat.num (x - y))))) []:=by
 have s0:=(sub_s hx hy)
 exact fspec_ok Tryd.func44 (sc:=[(1,2,.data (V.dv true (dQ (x - y)))),(1,3,.data (.c (.int .i64 (Int.sign (Rat.num (x - y))))))]) (sb:=[]) (keep:=[]) (by kernel_rfl) (hP (flatB_flat (m:=[]) rfl) (hF (qSub_k hx hy hs) (hF (qSign_k s0 (by omega)) hN)))
theorem qCmp_k {x y:Rat} {K L:Nat} (hx:Sz x K) (hy:Sz y L) (hs:K+L≤1000000000):FSpec Tryd.prog 44 [vQ x,vQ y] [] (.c (.int .i64 (x - y).num.sign)) []:=qcm hx hy hs
theorem nv2 {m:Nat}:wv [m%4294967296,m/4294967296]=m:=by simp [wv]; omega
theorem nv2L {m:Nat}:LeL [dW (lim (wv [m%4294967296,m/4294967296]))] [dW (lim m)]:=by rw [nv2]; exact LeL.refl _
theorem qN_p {m:Nat} (hm:m < 9223372036854775808) (h2:Nw m 2) (hW:W32 [m%4294967296,m/4294967296]) (hL:[m%4294967296,m/4294967296].length≤2)  : FSpec Tryd.prog 31 [.c (.int .i64 ((m:Nat):Int))] [] (V.dv true [D.v (Value.bool (decide (Rat.num (mkRat (sgn false m) (1:Nat)) < (0:Int)))),dW (lim (Int.natAbs (Rat.num (mkRat (sgn false m) (1:Nat))))),dW (lim (Rat.den (mkRat (sgn false m) (1:Nat))))]) []:=by
 have s0:=nw1_s
 exact fspec_ok Tryd.func31 (sc:=[(1,1,.is (.c (.int .u64 (↑m:Int)))),(2,1,.is (.c (.bool false))),(4,1,.is (.c (.bool false))),(4,3,.is (.c (.int .u32 ((↑(m%(4294967296:Nat)):Int))))),(4,5,.is (.c (.int .u64 ((↑(m/(4294967296:Nat)):Int))))),(4,6,.is (.c (.int .u32 ((↑(m/(4294967296:Nat)):Int))))),(4,10008,.conv [(17,vW [m%(4294967296:Nat),m/(4294967296:Nat)])]),(4,8,.data (V.dv false [dW (lim (wv [m%(4294967296:Nat),m/(4294967296:Nat)]))])),(4,10010,.conv [(18,vN m),(19,vN (1:Nat))]),(4,10,.data (V.dv true (dQ (mkRat (sgn false m) (1:Nat)))))]) (sb:=[]) (keep:=[]) (by kernel_rfl) (hP (flatB_flat (m:=[]) rfl) (hP (wrU (e:=(↑m:Int)) (by omega)) (hP (isB (show (decide ((↑m:Int) < (0:Int)))=false from df)) (hP (isB (show (decide ((↑m:Int) < (0:Int)))=false from df)) (hP (show V.c (Value.int .u32 (IntKind.wrap .u32 (↑m:Int))) = .c (.int .u32 ((↑(m%(4294967296:Nat)):Int))) from (wM rfl)) (hP (show V.c (Value.int .u64 (Int.fdiv (↑m:Int) ((2:Int)^min (Int.toNat (32:Int)) (IntKind.bits .u64)))) = .c (.int .u64 ((↑(m/(4294967296:Nat)):Int))) from (sh32 rfl)) (hP (show V.c (Value.int .u32 (IntKind.wrap .u32 (↑(m/(4294967296:Nat)):Int))) = .c (.int .u32 ((↑(m/(4294967296:Nat)):Int))) from (wrV (by omega))) (hP (show List.length [m%(4294967296:Nat),m/(4294967296:Nat)]=(2:Nat)∧(2:Nat)≤(2:Nat)∧frz (Row.cells { own:=true,cells:=[V.c (Value.int .u32 (↑(m%(4294967296:Nat)):Int)),V.c (Value.int .u32 (↑(m/(4294967296:Nat)):Int))] }) (0:Nat) (2:Nat) (1:Nat) fun i x=>D.v (Value.int .u32 (↑(List.getD [m%(4294967296:Nat),m/(4294967296:Nat)] i (0:Nat)):Int)) from (⟨rfl,by decide,frz_wc (l:=[m%4294967296,m/4294967296]) rfl⟩)) (hF (trim_k hW (by omega)) (hP (show LeL [dW (lim (wv [m%(4294967296:Nat),m/(4294967296:Nat)]))] [D.sl (List.length (lim m)) (1:Nat) fun i x=>D.v (Value.int .u32 (↑(List.getD (lim m) i (0:Nat)):Int))] from (nv2L)) (hP (show List.length [(1:Nat)]=(1:Nat)∧(1:Nat)≤(1:Nat)∧frz (Row.cells { own:=true,cells:=[V.c (Value.int .u32 (1:Int))] }) (0:Nat) (1:Nat) (1:Nat) fun i x=>D.v (Value.int .u32 (↑(List.getD (lim (1:Nat)) i (0:Nat)):Int)) from (⟨rfl,by decide,frz_one⟩)) (hF (made_k (neg:=false) h2 s0 (by decide +kernel) (by decide +kernel)) hN))))))))))))
theorem qle_a {x y:Rat} {K L:Nat} (hx:Sz x K) (hy:Sz y L) (hs:K+L≤1000000000) (h0:decide (Int.sign (Rat.num (x - y))≤(0:Int))=true):FSpec Tryd.prog 33 [vQ x,vQ y] [] (V.dv true [D.v (Value.bool (decide (Rat.num x < (0:Int)))),dW (lim (Int.natAbs (Rat.num x))),dW (lim (Rat.den x))]) []:=by
 exact fspec_ok Tryd.func33 (sc:=[(1,2,.data (.c (.int .i64 (Int.sign (Rat.num (x - y)))))),(1,3,.is (.c (.bool true)))]) (sb:=[]) (keep:=[]) (by kernel_rfl) (hP (flatB_flat (m:=[]) rfl) (hF (qCmp_k hx hy hs) (hP (isB h0) hN)))
theorem qle_b {x y:Rat} {K L:Nat} (hx:Sz x K) (hy:Sz y L) (hs:K+L≤1000000000) (h0:decide (Int.sign (Rat.num (x - y))≤(0:Int))=false):FSpec Tryd.prog 33 [vQ x,vQ y] [] (V.dv true [D.v (Value.bool (decide (Rat.num y < (0:Int)))),dW (lim (Int.natAbs (Rat.num y))),dW (lim (Rat.den y))]) []:=by
 exact fspec_ok Tryd.func33 (sc:=[(1,2,.data (.c (.int .i64 (Int.sign (Rat.num (x - y)))))),(1,3,.is (.c (.bool false)))]) (sb:=[]) (keep:=[]) (by kernel_rfl) (hP (flatB_flat (m:=[]) rfl) (hF (qCmp_k hx hy hs) (hP (isB h0) hN)))
theorem w32_2 {m:Nat} (h:m < 18446744073709551616):W32 [m%4294967296,m/4294967296]:=by
 intro x hx
 simp only [List.mem_cons,List.not_mem_nil,or_false] at hx
 rcases hx with rfl | rfl<;>omega
theorem nw_2 {m:Nat} (h:m < 18446744073709551616):Nw m 2:=nw_of (by rw [show (4294967296:Nat)^2=18446744073709551616 from rfl]; exact h)
theorem qN_k {m:Nat} (hm:m < 9223372036854775808):FSpec Tryd.prog 31 [.c (.int .i64 ((m:Nat):Int))] [] (vQ (((m:Nat):Int):Rat)) []:=by
 have h:=qN_p hm (nw_2 (by omega)) (w32_2 (by omega)) (Nat.le_refl 2)
 rw [Rat.mkRat_one] at h
 exact h
theorem qN0_k:FSpec Tryd.prog 31 [.c (.int .i64 0)] [] (vQ 0) []:=qN_k (m:=0) (by decide)
theorem sgn_sub_le {x y:Rat}:decide ((x - y).num.sign≤0)=decide (x≤y):=by
 refine decide_eq_decide.2 ?_
 rw [Int.sign_nonpos_iff,← Int.not_lt,num_pos]
 constructor<;>intro h<;>grind
theorem sgn_sub_ge {x y:Rat}:decide (0≤(x - y).num.sign)=decide (y≤x):=by
 refine decide_eq_decide.2 ?_
 rw [Int.sign_nonneg_iff,Rat.num_nonneg]
 constructor<;>intro h<;>grind
theorem qLeast_k {x y:Rat} {K L:Nat} (hx:Sz x K) (hy:Sz y L) (hs:K+L≤1000000000):FSpec Tryd.prog 33 [vQ x,vQ y] [] (vQ (mn x y)) []:=by
 unfold mn
 split
 ·rename_i h
  exact qle_a hx hy hs (by rw [sgn_sub_le]; exact decide_eq_true h)
 rename_i h
 exact qle_b hx hy hs (by rw [sgn_sub_le]; exact decide_eq_false h)
theorem wv_get_le {l:List Nat} {k:Nat} (h:k < l.length):4294967296^k*l.getD k 0≤wv l:=by
 have:=wv_set (l:=l) (k:=k) (y:=0) h
 omega
theorem four_cases (i:Nat):i%4=0∨i%4=1∨i%4=2∨i%4=3:=by omega
theorem pow256 (i:Nat):256^i=4294967296^(i/4)*2^(8*(i%4)):=by
 rw [show (256:Nat)=2^8 from rfl,show (4294967296:Nat)=2^32 from rfl,← Nat.pow_mul,← Nat.pow_mul,← Nat.pow_add]
 congr 1
 omega
theorem be_drop {l:List UInt8} {i:Nat} (hi:i < l.length):M.be (l.drop (l.length - (i+1)))=M.be (l.drop (l.length - i))+256^i*(l.getD (l.length - 1 - i) 0).toNat:=by
 have h1:l.length - (i+1) < l.length:=by omega
 rw [List.drop_eq_getElem_cons h1,M.be_cons,show l.length - (i+1)+1=l.length - i by omega,List.length_drop,show l.length - (l.length - i)=i by omega,List.getD_eq_getElem?_getD,List.getElem?_eq_getElem (by omega)]
 simp only [Option.getD_some]
 rw [Nat.add_comm,Nat.mul_comm]
 congr 4
 all_goals omega
theorem no_rounds {s:ByteArray} {n:Nat} (hn:n=(s.size+3)/4) (hs:s.size≤1099511627776):∀ d i:Nat,∀ C:List Nat,i+d=s.size→C.length=n→W32 C→wv C=M.be (s.data.toList.drop (s.size - i)) →
 ∃ C',C'.length=n∧W32 C' ∧ wv C' = M.V s∧Rounds Tryd.prog (loopOf Tryd.f46 0) 0 (noS s (wc C) n i) .normal (noS s (wc C') n s.size)
 | 0,i,C,hi,hl,hw,hv=>by
   obtain rfl:i=s.size:=by omega
   rw [Nat.sub_self,List.drop_zero] at hv
   exact ⟨C,hl,hw,hv,.stop no_b⟩
 | d+1,i,C,hi,hl,hw,hv=>by
   have hq:i/4 < n:=by omega
   have hlt:M.be (s.data.toList.drop (s.size - i)) < 256^i:=by
    have h:=M.be_lt (s.data.toList.drop (s.size - i))
    rw [List.length_drop,M.size_toList,show s.size - (s.size - i)=i by omega] at h
    exact h
   have hb:bAt s (s.size - 1 - i) < 256:=UInt8.toNat_lt _
   have hbd:=be_drop (l:=s.data.toList) (i:=i) (by rw [M.size_toList]; omega)
   rw [M.size_toList] at hbd
   have hbe:((s.data.toList.getD (s.size - 1 - i) 0).toNat)=bAt s (s.size - 1 - i):=rfl
   rw [hbe] at hbd
   have hg:=wv_get_le (l:=C) (k:=i/4) (by omega)
   generalize bAt s (s.size - 1 - i)=b at hb hbd hbe
   have hgc:C.getD (i/4) 0 < 2^(8*(i%4)):=by
    rw [hv] at hg
    rw [pow256] at hlt
    exact Nat.lt_of_mul_lt_mul_left (Nat.lt_of_le_of_lt hg hlt)
   have hsum:C.getD (i/4) 0+b*2^(8*(i%4)) < 4294967296:=by
    rcases four_cases i with e | e | e | e<;>rw [e] at hgc ⊢ <;> simp only [Nat.reduceMul,Nat.reducePow] at hgc ⊢ <;> omega
   have hvs:=wv_set (l:=C) (k:=i/4) (y:=C.getD (i/4) 0+b*2^(8*(i%4))) (by omega)
   have hv':wv (C.set (i/4) (C.getD (i/4) 0+b*2^(8*(i%4))))=M.be (s.data.toList.drop (s.size - (i+1))):=by
    rw [hbd,← hv,pow256 i]
    rw [Nat.mul_add] at hvs
    have:4294967296^(i/4)*2^(8*(i%4))*b=4294967296^(i/4)*(b*2^(8*(i%4))):=by rw [Nat.mul_assoc,Nat.mul_comm b]
    omega
   obtain ⟨C',h1,h2,h3,h4⟩:=no_rounds hn hs d (i+1) (C.set (i/4) (C.getD (i/4) 0+b*2^(8*(i%4)))) (by omega) (by rw [List.length_set]; exact hl) (fun x hx=>by
    rcases List.mem_or_eq_of_mem_set hx with hx | rfl
    ·exact hw x hx
    exact hsum) hv'
   refine ⟨C',h1,h2,h3,.step ?_ h4⟩
   have h:=no_a (s:=s) (C:=C) (n:=n) (i:=i) (y:=b*2^(8*(i%4))) hl (by omega) hs hq (by rw [← hbe] at hb; exact hb) (by rw [← hbe]; rfl) (by omega) (by omega) (or_ap hgc)
   rw [wc_set] at h
   exact h
theorem natOf_k {s:ByteArray} (hs:s.size≤1099511627776):FSpec Tryd.prog 46 [.c (.string s)] [] (vN (M.V s)) []:=by
 obtain ⟨C,h1,h2,h3,h4⟩:=no_rounds (s:=s) (n:=(s.size+3)/4) rfl hs s.size 0 (List.replicate ((s.size+3)/4) 0) (by omega) (by simp) (fun x hx=>by rw [(List.mem_replicate.1 hx).2]; decide) (by
  rw [wv_rep,Nat.sub_zero,List.drop_of_length_le (by rw [M.size_toList]; exact Nat.le_refl _)]; rfl)
 rw [← h3]
 rw [← wc_rep] at h4
 exact no_f rfl hs h1 h2 h4.spec
def nB (n:Nat):List Nat:=(M.bytesOf n).map UInt8.toNat
theorem nB_0:nB 0=[]:=by unfold nB; rw [M.bytesOf_zero]; rfl
theorem nB_pos {n:Nat} (h:n≠0):nB n=nB (n/256)++[n%256]:=by
 unfold nB
 rw [M.bytesOf_pos h,List.map_append]
 simp
theorem str_nB (n:Nat):strOfNums ((nB n).map Int.ofNat)=M.B n:=by
 unfold strOfNums M.B nB
 congr 2
 rw [List.map_map,List.map_map]
 conv=>rhs; rw [← List.map_id (M.bytesOf n)]
 refine List.map_congr_left fun x _=>?_
 simp
theorem wv_div {l:List Nat} (hw:W32 l):∀ k:Nat,wv l/4294967296^k=wv (l.drop k)
 | 0=>by simp
 | k+1=>by
   rw [Nat.pow_succ,← Nat.div_div_eq_div_mul,wv_div hw k]
   by_cases h:k < l.length
   ·rw [List.drop_eq_getElem_cons h]
    have:=hw _ (List.getElem_mem h)
    simp only [wv]
    omega
   rw [List.drop_of_length_le (by omega),List.drop_of_length_le (by omega)]
   rfl
theorem wv_word {l:List Nat} (hw:W32 l) {k:Nat} (h:k < l.length):wv l/4294967296^k%4294967296=l.getD k 0:=by
 rw [wv_div hw,List.drop_eq_getElem_cons h,List.getD_eq_getElem?_getD,List.getElem?_eq_getElem h]
 have:=hw _ (List.getElem_mem h)
 simp only [wv,Option.getD_some]
 omega
theorem wv_byte {l:List Nat} (hw:W32 l) {i:Nat} (h:i/4 < l.length):l.getD (i/4) 0/2^(8*(i%4))%256=wv l/256^i%256:=by
 rw [← wv_word hw h,pow256 i,← Nat.div_div_eq_div_mul]
 generalize wv l/4294967296^(i/4)=w
 rcases four_cases i with e | e | e | e<;>rw [e]<;>simp only [Nat.reduceMul,Nat.reducePow]<;>omega
theorem nB_len (n:Nat):(nB n).length=(M.bytesOf n).length:=by simp [nB]
theorem tx_rounds {a:List Nat} (hw:W32 a) (ha:a.length≤1099511627776) (hB:∀ i,(nB (wv a/256^i)).length < 70368744177664):∀ i:Nat,i≤4*a.length→RoundsN Tryd.prog 0 (loopOf Tryd.f54 0) 0 (txS a (nB (wv a/256^i)) ((i:Nat):Int)) .normal (txS a (nB (wv a)) 0)
 | 0,_=>by
   rw [Nat.pow_zero,Nat.div_one]
   exact .stop tx_e
 | i+1,hi=>by
   have h:=tx_rounds hw ha hB i (by omega)
   have hq:i/4 < a.length:=by omega
   have hc:=wv_byte hw hq
   have hd:wv a/256^(i+1)=wv a/256^i/256:=by rw [Nat.pow_succ,Nat.div_div_eq_div_mul]
   have hL:=hB (i+1)
   refine .step ?_ h
   rw [hd] at hL ⊢
   generalize wv a/256^i=m at hc hL ⊢
   by_cases h0:m/256=0
   ·rw [h0,nB_0]
    by_cases h1:m=0
    ·rw [h1,nB_0]
     exact tx_c hq (by omega) (by decide) hc (by omega) rfl (by omega)
    have h2:=tx_b (a:=a) (l:=[]) (i:=i) (c:=m%256) hq (by omega) (by decide) hc (by omega) rfl (by omega)
    rw [txT_eq] at h2
    rw [nB_pos h1,h0,nB_0]
    exact h2
   have h2:=tx_a (a:=a) (l:=nB (m/256)) (i:=i) (c:=m%256) hq (by omega) hL hc (by omega) (by rw [nB_pos h0]; simp)
   rw [txT_eq] at h2
   rw [nB_pos (n:=m) (by omega)]
   exact h2
theorem text_k {n K:Nat} (hn:Nw n K) (hK:K≤1099511627776):FSpec Tryd.prog 54 [vN n] [] (.c (.string (M.B n))) []:=by
 have hl:(lim n).length≤K:=hn
 have hs:∀ i,(nB (wv (lim n)/256^i)).length < 70368744177664:=fun i=>by
  have h1:wv (lim n)/256^i < 256^(4*K):=by
   rw [wv_lim]
   refine Nat.lt_of_le_of_lt (Nat.div_le_self _ _) ?_
   have:=nw_lt hn
   rw [Nat.pow_mul]
   exact this
  have h2:=M.size_B_le h1
  have h3:(M.B (wv (lim n)/256^i)).size=(nB (wv (lim n)/256^i)).length:=by rw [nB_len,← M.B_toList,M.size_toList]
  omega
 have h0:wv (lim n)/256^(4*(lim n).length)=0:=by
  refine Nat.div_eq_of_lt ?_
  have h:=nw_lt (show Nw n (lim n).length from Nat.le_refl _)
  rw [wv_lim,Nat.pow_mul]
  exact h
 have h:=tx_rounds (lim_wd n) (by omega) hs (4*(lim n).length) (Nat.le_refl _)
 rw [h0,nB_0,wv_lim] at h
 rw [← str_nB]
 exact tx_f (by omega) rfl h.spec
theorem nwV_s {s:ByteArray}:Nw (M.V s) s.size:=nw_256 (M.V_lt s)
theorem gd_1 {n:Bool} {a b:ByteArray} (ha:a.size≤1000000000) (hb:b.size≤1000000000) (h0:(!ByteArray.toList b==ByteArray.toList { data:=#[] })=false):CSpec Tryd.prog 45 #[(rv n a b)] (.bool false):=by
 exact fn_ok Tryd.func45 (sc:=[(1,2,.is (.c (.bool false)))]) (sb:=[]) (by kernel_rfl) (hP (isB h0) hN)
theorem gd_2 {n:Bool} {a b:ByteArray} (ha:a.size≤1000000000) (hb:b.size≤1000000000) (hb0:0 < b.size) (h0:(!ByteArray.toList b==ByteArray.toList { data:=#[] })=true) (h1:(!decide ((↑(bAt b (0:Nat)):Int)=(0:Int)))=false):CSpec Tryd.prog 45 #[(rv n a b)] (.bool false):=by
 exact fn_ok Tryd.func45 (sc:=[(1,2,.is (.c (.bool true))),(1,6,.app),(1,7,.is (.c (.bool false)))]) (sb:=[]) (by kernel_rfl) (hP (isB h0) (hP (show (0:Int)≤(0:Int)∧(0:Int) < (↑(ByteArray.size b):Int) by omega) (hP (isB h1) hN)))
theorem gd_3 {n:Bool} {a b:ByteArray} (ha:a.size≤1000000000) (hb:b.size≤1000000000) (hb0:0 < b.size) (h0:(!ByteArray.toList b==ByteArray.toList { data:=#[] })=true) (h1:(!decide ((↑(bAt b (0:Nat)):Int)=(0:Int)))=true) (h2:(ByteArray.toList a==ByteArray.toList { data:=#[] })=true) (h3:n=true) (h4:(!ByteArray.toList a==ByteArray.toList { data:=#[] })=false):CSpec Tryd.prog 45 #[(rv n a b)] (.bool false):=by
 exact fn_ok Tryd.func45 (sc:=[(1,2,.is (.c (.bool true))),(1,6,.app),(1,7,.is (.c (.bool true))),(1,12,.is (.c (.bool true))),(1,15,.is (.c (.bool true))),(1,21,.is (.c (.bool false)))]) (sb:=[]) (by kernel_rfl) (hP (isB h0) (hP (show (0:Int)≤(0:Int)∧(0:Int) < (↑(ByteArray.size b):Int) by omega) (hP (isB h1) (hP (isB h2) (hP (isB h3) (hP (isB h4) hN))))))
theorem gd_4a {n:Bool} {a b:ByteArray} (ha:a.size≤1000000000) (hb:b.size≤1000000000) (hb0:0 < b.size) (h0:(!ByteArray.toList b==ByteArray.toList { data:=#[] })=true) (h1:(!decide ((↑(bAt b (0:Nat)):Int)=(0:Int)))=true) (h2:(ByteArray.toList a==ByteArray.toList { data:=#[] })=true) (h3:n=false) (h6:decide ((↑(List.length (lim (Nat.gcd (M.V a) (M.V b)))):Int)=(1:Int))=false):CSpec Tryd.prog 45 #[(rv n a b)] (.bool false):=by
 have s4:=(nwV_s (s:=a))
 have s5:=(nwV_s (s:=b))
 exact fn_ok Tryd.func45 (sc:=[(1,2,.is (.c (.bool true))),(1,6,.app),(1,7,.is (.c (.bool true))),(1,12,.is (.c (.bool true))),(1,15,.is (.c (.bool false))),(4,2,.data (V.dv false [dW (lim (M.V a))])),(4,5,.data (V.dv false [dW (lim (M.V b))])),(4,6,.data (V.dv false [dW (lim (Nat.gcd (M.V a) (M.V b)))])),(5,2,.is (.c (.bool false)))]) (sb:=[]) (by kernel_rfl) (hP (isB h0) (hP (show (0:Int)≤(0:Int)∧(0:Int) < (↑(ByteArray.size b):Int) by omega) (hP (isB h1) (hP (isB h2) (hP (isB h3) (hF (natOf_k (s:=a) (by omega)) (hF (natOf_k (s:=b) (by omega)) (hF (gcdNat_k s4 s5 (by omega) (by omega)) (hP (isB h6) hN)))))))))
theorem gd_4b {n:Bool} {a b:ByteArray} (ha:a.size≤1000000000) (hb:b.size≤1000000000) (hb0:0 < b.size) (hg:(lim (Nat.gcd (M.V a) (M.V b))).length=1) (h0:(!ByteArray.toList b==ByteArray.toList { data:=#[] })=true) (h1:(!decide ((↑(bAt b (0:Nat)):Int)=(0:Int)))=true) (h2:(ByteArray.toList a==ByteArray.toList { data:=#[] })=true) (h3:n=false):CSpec Tryd.prog 45 #[(rv n a b)] (.bool (decide ((↑(List.getD (lim (Nat.gcd (M.V a) (M.V b))) (0:Nat) (0:Nat)):Int)=(1:Int)))):=by
 have s4:=(nwV_s (s:=a))
 have s5:=(nwV_s (s:=b))
 exact fn_ok Tryd.func45 (sc:=[(1,2,.is (.c (.bool true))),(1,6,.app),(1,7,.is (.c (.bool true))),(1,12,.is (.c (.bool true))),(1,15,.is (.c (.bool false))),(4,2,.data (V.dv false [dW (lim (M.V a))])),(4,5,.data (V.dv false [dW (lim (M.V b))])),(4,6,.data (V.dv false [dW (lim (Nat.gcd (M.V a) (M.V b)))])),(5,2,.is (.c (.bool true)))]) (sb:=[]) (by kernel_rfl) (hP (isB h0) (hP (show (0:Int)≤(0:Int)∧(0:Int) < (↑(ByteArray.size b):Int) by omega) (hP (isB h1) (hP (isB h2) (hP (isB h3) (hF (natOf_k (s:=a) (by omega)) (hF (natOf_k (s:=b) (by omega)) (hF (gcdNat_k s4 s5 (by omega) (by omega)) (hP (isB (show (decide ((↑(List.length (lim (Nat.gcd (M.V a) (M.V b)))):Int)=(1:Int)))=true from dt)) (hP (show (0:Int)≤(0:Int)∧(0:Int) < (↑(List.length (lim (Nat.gcd (M.V a) (M.V b)))):Int) by omega) hN))))))))))
theorem gd_5 {n:Bool} {a b:ByteArray} (ha:a.size≤1000000000) (hb:b.size≤1000000000) (hb0:0 < b.size) (ha0:0 < a.size) (h0:(!ByteArray.toList b==ByteArray.toList { data:=#[] })=true) (h1:(!decide ((↑(bAt b (0:Nat)):Int)=(0:Int)))=true) (h2:(ByteArray.toList a==ByteArray.toList { data:=#[] })=false) (h3:(!ByteArray.toList a==ByteArray.toList { data:=#[] })=true) (h4:(!decide ((↑(bAt a (0:Nat)):Int)=(0:Int)))=false):CSpec Tryd.prog 45 #[(rv n a b)] (.bool false):=by
 exact fn_ok Tryd.func45 (sc:=[(1,2,.is (.c (.bool true))),(1,6,.app),(1,7,.is (.c (.bool true))),(1,12,.is (.c (.bool false))),(1,21,.is (.c (.bool true))),(1,25,.app),(1,26,.is (.c (.bool false)))]) (sb:=[]) (by kernel_rfl) (hP (isB h0) (hP (show (0:Int)≤(0:Int)∧(0:Int) < (↑(ByteArray.size b):Int) by omega) (hP (isB h1) (hP (isB h2) (hP (isB h3) (hP (show (0:Int)≤(0:Int)∧(0:Int) < (↑(ByteArray.size a):Int) by omega) (hP (isB h4) hN)))))))
theorem gd_6a {n:Bool} {a b:ByteArray} (ha:a.size≤1000000000) (hb:b.size≤1000000000) (hb0:0 < b.size) (ha0:0 < a.size) (h0:(!ByteArray.toList b==ByteArray.toList { data:=#[] })=true) (h1:(!decide ((↑(bAt b (0:Nat)):Int)=(0:Int)))=true) (h2:(ByteArray.toList a==ByteArray.toList { data:=#[] })=false) (h3:(!ByteArray.toList a==ByteArray.toList { data:=#[] })=true) (h4:(!decide ((↑(bAt a (0:Nat)):Int)=(0:Int)))=true) (h7:decide ((↑(List.length (lim (Nat.gcd (M.V a) (M.V b)))):Int)=(1:Int))=false):CSpec Tryd.prog 45 #[(rv n a b)] (.bool false):=by
 have s5:=(nwV_s (s:=a))
 have s6:=(nwV_s (s:=b))
 exact fn_ok Tryd.func45 (sc:=[(1,2,.is (.c (.bool true))),(1,6,.app),(1,7,.is (.c (.bool true))),(1,12,.is (.c (.bool false))),(1,21,.is (.c (.bool true))),(1,25,.app),(1,26,.is (.c (.bool true))),(4,2,.data (V.dv false [dW (lim (M.V a))])),(4,5,.data (V.dv false [dW (lim (M.V b))])),(4,6,.data (V.dv false [dW (lim (Nat.gcd (M.V a) (M.V b)))])),(5,2,.is (.c (.bool false)))]) (sb:=[]) (by kernel_rfl) (hP (isB h0) (hP (show (0:Int)≤(0:Int)∧(0:Int) < (↑(ByteArray.size b):Int) by omega) (hP (isB h1) (hP (isB h2) (hP (isB h3) (hP (show (0:Int)≤(0:Int)∧(0:Int) < (↑(ByteArray.size a):Int) by omega) (hP (isB h4) (hF (natOf_k (s:=a) (by omega)) (hF (natOf_k (s:=b) (by omega)) (hF (gcdNat_k s5 s6 (by omega) (by omega)) (hP (isB h7) hN)))))))))))
theorem gd_6b {n:Bool} {a b:ByteArray} (ha:a.size≤1000000000) (hb:b.size≤1000000000) (hb0:0 < b.size) (ha0:0 < a.size) (hg:(lim (Nat.gcd (M.V a) (M.V b))).length=1) (h0:(!ByteArray.toList b==ByteArray.toList { data:=#[] })=true) (h1:(!decide ((↑(bAt b (0:Nat)):Int)=(0:Int)))=true) (h2:(ByteArray.toList a==ByteArray.toList { data:=#[] })=false) (h3:(!ByteArray.toList a==ByteArray.toList { data:=#[] })=true) (h4:(!decide ((↑(bAt a (0:Nat)):Int)=(0:Int)))=true):CSpec Tryd.prog 45 #[(rv n a b)] (.bool (decide ((↑(List.getD (lim (Nat.gcd (M.V a) (M.V b))) (0:Nat) (0:Nat)):Int)=(1:Int)))):=by
 have s5:=(nwV_s (s:=a))
 have s6:=(nwV_s (s:=b))
 exact fn_ok Tryd.func45 (sc:=[(1,2,.is (.c (.bool true))),(1,6,.app),(1,7,.is (.c (.bool true))),(1,12,.is (.c (.bool false))),(1,21,.is (.c (.bool true))),(1,25,.app),(1,26,.is (.c (.bool true))),(4,2,.data (V.dv false [dW (lim (M.V a))])),(4,5,.data (V.dv false [dW (lim (M.V b))])),(4,6,.data (V.dv false [dW (lim (Nat.gcd (M.V a) (M.V b)))])),(5,2,.is (.c (.bool true)))]) (sb:=[]) (by kernel_rfl) (hP (isB h0) (hP (show (0:Int)≤(0:Int)∧(0:Int) < (↑(ByteArray.size b):Int) by omega) (hP (isB h1) (hP (isB h2) (hP (isB h3) (hP (show (0:Int)≤(0:Int)∧(0:Int) < (↑(ByteArray.size a):Int) by omega) (hP (isB h4) (hF (natOf_k (s:=a) (by omega)) (hF (natOf_k (s:=b) (by omega)) (hF (gcdNat_k s5 s6 (by omega) (by omega)) (hP (isB (show (decide ((↑(List.length (lim (Nat.gcd (M.V a) (M.V b)))):Int)=(1:Int)))=true from dt)) (hP (show (0:Int)≤(0:Int)∧(0:Int) < (↑(List.length (lim (Nat.gcd (M.V a) (M.V b)))):Int) by omega) hN))))))))))))
theorem qt {x:Rat} {K:Nat} (hx:Sz x K) (hs:K≤1000000000)  : FSpec Tryd.prog 27 [vQ x] [] (.c (Rv x)) []:=by
 have s0:=(szn_s hx)
 have s1:=(szd_s hx)
 exact fspec_ok Tryd.func27 (sc:=[(1,4,.data (.c (.string (M.B (Int.natAbs (Rat.num x)))))),(1,7,.data (.c (.string (M.B (Rat.den x)))))]) (sb:=[]) (keep:=[]) (by kernel_rfl) (hP (flatB_flat (m:=[]) rfl) (hF (text_k s0 (by omega)) (hF (text_k s1 (by omega)) hN)))
end Go.Proofs.YtmkgijiniopalaaDoor.G
end
section
namespace Go.Proofs.YtmkgijiniopalaaDoor.G
open Go.Proofs.YtmkgijiniopalaaDoor.U Go.RowKit Go.Proofs.YtmkgijiniopalaaDoorW.PrintWords Go.Proofs.YtmkgijiniopalaaDoorW.PrintLast Go.Proofs.YtmkgijiniopalaaDoorW.PrintMore
theorem bt_bAt (a:ByteArray):bt a 0=(bAt a 0:Nat):=by
 rw [SA.bt0]
 unfold bAt
 cases a.data.toList<;>rfl
theorem seq_t {a b:ByteArray} (h:a=b):(a.toList==b.toList)=true:=by rw [str_eqd,h]; simp
theorem seq_f {a b:ByteArray} (h:a≠b):(a.toList==b.toList)=false:=by rw [str_eqd]; simp [h]
theorem sne_t {a b:ByteArray} (h:a≠b):(!(a.toList==b.toList))=true:=by rw [seq_f h]; rfl
theorem sne_f {a b:ByteArray} (h:a=b):(!(a.toList==b.toList))=false:=by rw [seq_t h]; rfl
theorem b0_f {a:ByteArray} (h:bAt a 0=0):(!decide (((bAt a 0:Nat):Int)=0))=false:=by rw [h]; rfl
theorem b0_t {a:ByteArray} (h:bAt a 0≠0):(!decide (((bAt a 0:Nat):Int)=0))=true:=by rw [df]; rfl
theorem lead_b {a:ByteArray} (h:bAt a 0≠0):M.B (M.V a)=a:=(lead_iff a).2 (.inr (by rw [bt_bAt]; omega))
theorem len_one {g:Nat} (h:(lim g).length=1):(lim g).getD 0 0=g:=by
 conv=>rhs; rw [← wv_lim g]
 match hq:lim g,h with
 | [x],_=>simp [wv]
open Classical in
theorem gGood0 {n:Bool} {a b:ByteArray} (ha:a.size≤1000000000) (hb:b.size≤1000000000):CSpec Tryd.prog 45 #[rv n a b] (.bool (decide (Can n a b))):=by
 by_cases b0:b=⟨#[]⟩
 ·rw [decide_eq_false (fun h=>h.nz (by rw [b0]; rfl))]
  exact gd_1 ha hb (sne_f b0)
 have bp:0 < b.size:=pos_of b0
 by_cases d0:bAt b 0=0
 ·rw [decide_eq_false (fun h => by
   rcases (lead_iff b).1 h.lb with h1 | h1
   ·omega
   rw [bt_bAt,d0] at h1; exact h1 rfl)]
  exact gd_2 ha hb bp (sne_t b0) (b0_f d0)
 have lb:M.B (M.V b)=b:=lead_b d0
 have nz:M.V b≠0:=fun h=>b0 (nil_of lb h)
 by_cases a0:a=⟨#[]⟩
 ·have va:M.V a=0:=by rw [a0]; rfl
  have la:M.B (M.V a)=a:=SA.lead_of a (.inl (by rw [a0]; rfl))
  cases n with
  | true =>
    rw [decide_eq_false (fun h=>by have:=h.sg va; cases this)]
    exact gd_3 ha hb bp (sne_t b0) (b0_t d0) (seq_t a0) rfl (sne_f a0)
  | false =>
    by_cases hg:(lim (Nat.gcd (M.V a) (M.V b))).length=1
    ·have h:=gd_4b (n:=false) ha hb bp hg (sne_t b0) (b0_t d0) (seq_t a0) rfl
     rw [len_one hg] at h
     rw [show decide (Can false a b)=decide (((Nat.gcd (M.V a) (M.V b):Nat):Int)=1) from decide_eq_decide.2 ⟨fun h=>by rw [h.red]; rfl,fun h=>⟨nz,la,lb,by omega,fun _=>rfl⟩⟩]
     exact h
    rw [decide_eq_false (fun h=>hg (by rw [h.red,lim_one]; rfl))]
    exact gd_4a ha hb bp (sne_t b0) (b0_t d0) (seq_t a0) rfl (df)
 have ap:0 < a.size:=pos_of a0
 by_cases e0:bAt a 0=0
 ·rw [decide_eq_false (fun h => by
   rcases (lead_iff a).1 h.la with h1 | h1
   ·omega
   rw [bt_bAt,e0] at h1; exact h1 rfl)]
  exact gd_5 ha hb bp ap (sne_t b0) (b0_t d0) (seq_f a0) (sne_t a0) (b0_f e0)
 have la:M.B (M.V a)=a:=lead_b e0
 have va:M.V a≠0:=fun h=>a0 (nil_of la h)
 by_cases hg:(lim (Nat.gcd (M.V a) (M.V b))).length=1
 ·have h:=gd_6b (n:=n) ha hb bp ap hg (sne_t b0) (b0_t d0) (seq_f a0) (sne_t a0) (b0_t e0)
  rw [len_one hg] at h
  rw [show decide (Can n a b)=decide (((Nat.gcd (M.V a) (M.V b):Nat):Int)=1) from decide_eq_decide.2 ⟨fun h=>by rw [h.red]; rfl,fun h=>⟨nz,la,lb,by omega,fun h=>(va h).elim⟩⟩]
  exact h
 rw [decide_eq_false (fun h=>hg (by rw [h.red,lim_one]; rfl))]
 exact gd_6a ha hb bp ap (sne_t b0) (b0_t d0) (seq_f a0) (sne_t a0) (b0_t e0) (df)
open Classical in
noncomputable def canB (n:Bool) (a b:ByteArray):Bool:=decide (Can n a b)
open Classical in
theorem canB_t {n:Bool} {a b:ByteArray} (h:canB n a b=true):Can n a b:=of_decide_eq_true h
open Classical in
theorem canB_f {n:Bool} {a b:ByteArray} (h:canB n a b=false):¬ Can n a b:=of_decide_eq_false h
theorem gGood_k {n:Bool} {a b:ByteArray} (ha:a.size≤1000000000) (hb:b.size≤1000000000):CSpec Tryd.prog 45 #[rv n a b] (.bool (canB n a b)):=gGood0 ha hb
theorem sgn_dec {n:Bool} {k:Nat} (hs:k=0→n=false):decide (sgn n k < 0)=n:=by
 cases n with
 | false=>simp [sgn]
 | true =>
   have:k≠0:=fun h0=>by have:=hs h0; cases this
   simp only [sgn,if_true]
   exact dt
theorem dQ_can {n:Bool} {a b:ByteArray} (h:Can n a b):dQ (qv n a b)=[.v (.bool n),dW (lim (M.V a)),dW (lim (M.V b))]:=by
 have e:qv n a b=⟨sgn n (M.V a),M.V b,h.nz,by rw [sgn_abs]; exact h.red⟩:=by unfold qv; rw [dif_pos h]
 unfold dQ
 rw [e]
 simp only [sgn_abs]
 rw [sgn_dec h.sg]
theorem qTo_k {x:Rat} {K:Nat} (hx:Sz x K) (hs:K≤1000000000):FSpec Tryd.prog 27 [vQ x] [] (.c (Rv x)) []:=qt hx hs
end Go.Proofs.YtmkgijiniopalaaDoor.G
end
section
namespace Go.Proofs.YtmkgijiniopalaaDoor.G
open Go.Proofs.YtmkgijiniopalaaDoor.U Go.RowKit
theorem fr_t {n:Bool} {a b:ByteArray} (ha:a.size≤1000000000) (hb:b.size≤1000000000) (h0:canB n a b=true):FSpec Tryd.prog 18 [.c (rv n a b)] [] (V.dv true [D.v (Value.bool n),dW (lim (M.V a)),dW (lim (M.V b))]) []:=by
 exact fspec_ok Tryd.func18 (sc:=[(1,1,.fix (.bool true)),(3,4,.data (V.dv false [dW (lim (M.V a))])),(3,7,.data (V.dv false [dW (lim (M.V b))]))]) (sb:=[]) (keep:=[]) (by kernel_rfl) (hP (flatB_flat (m:=[]) rfl) (hC (cbool (gGood_k (n:=n) ha hb) h0) (hF (natOf_k (s:=a) (by omega)) (hF (natOf_k (s:=b) (by omega)) hN))))
theorem fr_f {n:Bool} {a b:ByteArray} (ha:a.size≤1000000000) (hb:b.size≤1000000000) (h0:canB n a b=false):FSpec Tryd.prog 18 [.c (rv n a b)] [] (V.dv true [D.v (Value.bool (decide (Rat.num (0:Rat) < (0:Int)))),dW (lim (0:Nat)),dW (lim (1:Nat))]) []:=by
 exact fspec_ok Tryd.func18 (sc:=[(1,1,.fix (.bool false)),(2,0,.data (V.dv true (dQ (0:Rat))))]) (sb:=[]) (keep:=[]) (by kernel_rfl) (hP (flatB_flat (m:=[]) rfl) (hC (cbool (gGood_k (n:=n) ha hb) h0) (hF qN0_k hN)))
theorem gFrom_k {n:Bool} {a b:ByteArray} (ha:a.size≤1000000000) (hb:b.size≤1000000000):FSpec Tryd.prog 18 [.c (rv n a b)] [] (vQ (qv n a b)) []:=by
 match h:canB n a b with
 | true =>
   show FSpec _ _ _ _ (V.dv true (dQ (qv n a b))) _
   rw [dQ_can (canB_t h)]
   exact fr_t ha hb h
 | false =>
   have e:qv n a b=0:=dif_neg (canB_f h)
   rw [e]
   exact fr_f ha hb h
end Go.Proofs.YtmkgijiniopalaaDoor.G
end
