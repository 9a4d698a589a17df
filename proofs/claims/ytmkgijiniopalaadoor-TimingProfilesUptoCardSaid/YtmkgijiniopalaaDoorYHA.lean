import Derived.Test.YtmkgijiniopalaaDoorYSA
import Derived.Handy
import Derived.Lib.Strings
import Derived.Lib.Slices
import Derived.Lib.Walk
import Derived.Lib.Bytealg
namespace Go.Proofs.YtmkgijiniopalaaDoor.H
open Go.RowKit Go.Proofs.YtmkgijiniopalaaDoor.A Go.Proofs.YtmkgijiniopalaaDoor.M Go.Proofs.YtmkgijiniopalaaDoorW.PrintWords Go.Proofs.YtmkgijiniopalaaDoorW.PrintLast Go.Proofs.YtmkgijiniopalaaDoorW.PrintMore
set_option linter.unusedVariables false
set_option linter.unusedSimpArgs false
def eight (n:Int):List Int:=[n/72057594037927936%256,n/281474976710656%256,n/1099511627776%256,n/4294967296%256,n/16777216%256,n/65536%256,n/256%256,n%256]
theorem bv_eight (n:Int) (h0:0≤n) (h1:n < 18446744073709551616):bv (eight n)=n:=by
 simp only [bv,eight,List.reverse_cons,List.reverse_nil,List.nil_append,List.cons_append,lv]
 omega
theorem InR_eight (n:Int):InR 256 (eight n):=by
 intro x hx
 simp only [eight,List.mem_cons,List.not_mem_nil,or_false] at hx
 rcases hx with rfl | rfl | rfl | rfl | rfl | rfl | rfl | rfl<;>omega
theorem V_eight (n:Int) (h0:0≤n) (h1:n < 18446744073709551616):V (strOfNums (eight n))=n.toNat:=by
 have:=V_strOfNums (InR_eight n)
 rw [bv_eight n h0 h1] at this
 omega
def nat_fromShort.f (a0:Int):Option (ByteArray):=if 0≤a0∧a0 < 18446744073709551616 then some (B a0.toNat) else none
set_option maxRecDepth 100000 in
set_option maxHeartbeats 1000000 in
theorem fromShort_walk (n:Int) (k:Nat) (r:ByteArray) (hk:Aside0 (nat_trim.f k (strOfNums (eight n))=some r)) (h0:0≤n) (w:World):Calls Tryd.prog 73 #[.int .u64 n] w fun e w'=>e = .returned (.string r)∧Below w.heap.size w w':=by
 have HW:=Aside0.mk (Below.refl w.heap.size w)
 have hs:Tryd.prog.underlying 92=some (.slice 5):=Tryd.underlying92
 have hu:Tryd.prog.underlying 5=some (.int .u8):=Tryd.underlying5
 have hd:Tryd.prog.underlying 9=some .string:=Tryd.underlying9
 have key:∀ W:World,(∀ i,i < 8→W.cell? ⟨w.heap.size,0+i,none⟩=some (.int .u8 ((eight n).getD i 0)))→(convert 92 9 (.slice (some ⟨w.heap.size,0,none⟩) 8 8)).run Tryd.prog W = .ok (.string (strOfNums (eight n))) W :=
  fun W hc=>run_convert_bytes_arg W 92 5 hs hu w.heap.size 0 8 8 (eight n) rfl hc 9 hd
 have HKEY:=Aside0.mk key
 clear key hs hu hd
 go_enter Tryd.func73,Tryd.ntmps73
 go_wp2
 refine wp_loop_rounds 9 ?_
 rw [rounds_succ]; go_wp2
 rw [rounds_succ]; go_wp2
 rw [rounds_succ]; go_wp2
 rw [rounds_succ]; go_wp2
 rw [rounds_succ]; go_wp2
 rw [rounds_succ]; go_wp2
 rw [rounds_succ]; go_wp2
 rw [rounds_succ]; go_wp2
 rw [rounds_succ]; go_wp2
 rw [HKEY.out _ (by
  intro i hi
  rw [World.cell?_alloc_at _ _ _ _ rfl]
  rcases (by omega:i=0∨i=1∨i=2∨i=3∨i=4∨i=5∨i=6∨i=7) with rfl | rfl | rfl | rfl | rfl | rfl | rfl | rfl<;>rfl)]
 simp only [Result.andThen]
 rw [Oper.upon_value]
 go_wp2_with (go_at_call 72; (with_reducible refine (nat_trim.calls k _ r _ hk.out).mono ?_); rintro e w' ⟨rfl,⟨nd,rfl⟩⟩)
 go_ret
 exact ⟨rfl,by repeat (first | exact HW.out | apply below_alloc | apply pw_below_drewN | apply below_drew1)⟩
theorem nat_fromShort.calls (a0:Int) (r:ByteArray) (w:World) (h:nat_fromShort.f a0=some r) :
 Calls Tryd.prog 73 #[.int .u64 a0] w fun e w'=>e = .returned (.string r)∧Below w.heap.size w w':=by
 unfold nat_fromShort.f at h
 split at h
 ·rename_i hc
  obtain rfl:=Option.some.inj h
  have ht:=SA.trim (strOfNums (eight a0))
  rw [V_eight a0 hc.1 hc.2] at ht
  obtain ⟨k,hk⟩:=ht.rounds
  exact fromShort_walk a0 k _ ⟨hk⟩ hc.1 w
 cases h
def strings_Compare.f (a0 a1:ByteArray):Option (Int):=some (Lib.compareBytes a0.data.toList a1.data.toList)
set_option maxHeartbeats 1000000 in
set_option maxRecDepth 100000 in
theorem compareString (a b:ByteArray) (w:World) :
 Calls Tryd.prog 86 #[.string a,.string b] w fun e w'=>e = .returned (.int .i64 (Lib.compareBytes a.data.toList b.data.toList))∧w' = w:=by
 go_enter Tryd.func86,Tryd.ntmps86
 go_wp2
 rw [run_callFunc_extern Tryd.func96 (by kernel_rfl) (by kernel_rfl) (by kernel_rfl) (e:=Extern.BytealgCompare.compare) (by kernel_rfl),Lib.run_compareString]
 simp only [Result.andThen]
 rw [Oper.upon_value]
 go_wp2
 go_ret
 exact ⟨rfl,rfl⟩
set_option maxHeartbeats 1000000 in
theorem strings_Compare.calls (a0 a1:ByteArray) (r:Int) (w:World) (h:strings_Compare.f a0 a1=some r) :
 Calls Tryd.prog 79 #[.string a0,.string a1] w fun e w'=>e = .returned (.int .i64 r)∧Drawn0 w w':=by
 obtain rfl:=Option.some.inj h
 clear h
 go_enter Tryd.func79,Tryd.ntmps79
 go_wp2_with (go_at_call 86; (with_reducible refine (compareString _ _ _).mono ?_); rintro e w' ⟨rfl,rfl⟩)
 go_ret
 exact ⟨rfl,Drawn0.refl _⟩
end Go.Proofs.YtmkgijiniopalaaDoor.H
