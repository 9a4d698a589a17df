import Derived.Test.YtkpeembfagcpcaaDoorYT0
import Derived.Test.YtkpeembfagcpcaaDoorYZ
namespace Go.Proofs.YtkpeembfagcpcaaDoor.T
open Go.RowKit Go.Proofs.YtkpeembfagcpcaaDoor.Z Go.Proofs.YtkpeembfagcpcaaDoorW.PrintWords Go.Proofs.YtkpeembfagcpcaaDoorW.PrintLast Go.Proofs.YtkpeembfagcpcaaDoorW.PrintMore
attribute [local go_sem] max2_int min2_int max_two min_two max_three min_three max_four min_four
set_option linter.unusedVariables false
set_option linter.unusedSimpArgs false
set_option maxHeartbeats 8000000
set_option maxRecDepth 100000
def strings_trimLeftByte.l0:Nat→ByteArray→Int→Option (ByteArray)
 | 0,_,_=>none
 | k+1,x0,x1=>if (x0.size:Int) > 0 then (if 0 < (x0.size:Int) then (if (bt x0 0)=x1 then (if 1≤(x0.size:Int) then (strings_trimLeftByte.l0 k (x0.extract 1 x0.size) x1) else (none)) else (some x0)) else (none)) else (some x0)
def strings_trimLeftByte.f (k:Nat) (a0:ByteArray) (a1:Int):Option (ByteArray):=strings_trimLeftByte.l0 k a0 a1
theorem strings_trimLeftByte.mono_l:∀ k,(∀ y0 y1,LeO (strings_trimLeftByte.l0 k y0 y1) (strings_trimLeftByte.l0 (k+1) y0 y1))
 | 0=>fun _ _ r h=>by simp [strings_trimLeftByte.l0] at h
 | k+1=>by
  have ih0:=strings_trimLeftByte.mono_l k
  intro y0 y1
  unfold strings_trimLeftByte.l0
  exact zM
theorem strings_trimLeftByte.mono:∀ a0 a1 k,LeO (strings_trimLeftByte.f k a0 a1) (strings_trimLeftByte.f (k+1) a0 a1):=by
 intro a0 a1 k
 have ih0:=strings_trimLeftByte.mono_l k
 unfold strings_trimLeftByte.f
 exact zM
theorem strings_trimLeftByte.calls (k:Nat) (a0:ByteArray) (a1:Int) (r:ByteArray) (w:World) (h:strings_trimLeftByte.f k a0 a1=some r) :
 Calls Tryd.prog 104 #[.string a0,.int .u8 a1] w fun e w'=>e = .returned (.string r)∧Drawn0 w w':=by
 unfold strings_trimLeftByte.f at h
 have H:=h
 clear h
 have H':=Aside0.mk H
 clear H
 go_enter Tryd.func104,Tryd.ntmps104
 go_wp2
 go_loopg [0] k (fun kq v0 w'=>∃ (x0_1:ByteArray),v0 = .string x0_1∧Aside0 (strings_trimLeftByte.l0 kq x0_1 a1=some r)∧Aside0 (kq≤k)∧Drawn0 w w')
 case atStart=>exact ⟨(a0),zS,H',⟨Nat.le_refl _⟩,by repeat (first | exact Drawn0.refl _ | apply Drawn0.step)⟩
 case round =>
  clear H'
  try clear c1
  try clear p2
  obtain ⟨x0_1,rfl,HA,HK1,⟨m1,rfl⟩⟩:=hrel
  cases gk with
  | zero=>exact absurd HA.out (by simp [strings_trimLeftByte.l0])
  | succ k1 =>
   have H:=HA.out
   clear HA
   simp only [strings_trimLeftByte.l0] at H
   by_cases c3:(x0_1.size:Int) > 0
   rotate_left
   ·rw [if_neg c3] at H
    have c3b0:decide (0 < (x0_1.size:Int))=false:=decide_eq_false c3
    have c3b1:decide (0 < x0_1.size)=false:=decide_eq_false (by omega)
    clear c3
    obtain rfl:=Option.some.inj H
    go_wp2
    go_ret
    exact ⟨zS,by repeat (first | exact Drawn0.refl _ | apply Drawn0.step)⟩
   rw [if_pos c3] at H
   have c3b0:decide (0 < (x0_1.size:Int))=true:=decide_eq_true c3
   have c3b1:decide (0 < x0_1.size)=true:=decide_eq_true (by omega)
   clear c3
   by_cases c4:0 < (x0_1.size:Int)
   rotate_left
   ·rw [if_neg c4] at H
    exact absurd H (by simp)
   rw [if_pos c4] at H
   have c4b0:decide (0 < (x0_1.size:Int))=true:=decide_eq_true c4
   have c4b1:decide (0 < x0_1.size)=true:=decide_eq_true (by omega)
   clear c4
   by_cases c6:(bt x0_1 0)=a1
   ·rw [if_pos c6] at H
    have c6b0:((bt x0_1 0)==a1)=true:=beq_iff_eq.mpr c6
    have c6b1:((bt x0_1 0) != a1)=false:=bne_eq_false_iff_eq.mpr c6
    clear c6
    obtain ⟨c7b0,c7b1,H⟩:=zE H
    have H':=Aside0.mk H
    clear H
    have p5:0≤(0:Int):=(by omega)
    have q5:0 < x0_1.size:=(by have:(0:Int) < (x0_1.size:Int):=zD; omega)
    have hx5:∀ h:0 < x0_1.size,((x0_1[0]'h).toNat:Int)=bt x0_1 0:=bt_at x0_1 0
    clear p5
    have qi5:(0 < (x0_1.size:Int))=True:=eq_true zD
    replace q5:=eq_true q5
    go_wp2
    go_roundg k1
    case measure=>have:=HK1.out; omega
    case rel=>exact ⟨(x0_1.extract 1 x0_1.size),zS,H',⟨by have:=HK1.out; omega⟩,by repeat (first | exact Drawn0.refl _ | apply Drawn0.step)⟩
   rw [if_neg c6] at H
   have c6b0:((bt x0_1 0)==a1)=false:=beq_eq_false_iff_ne.mpr c6
   have c6b1:((bt x0_1 0) != a1)=true:=bne_iff_ne.mpr c6
   obtain rfl:=Option.some.inj H
   have p5:0≤(0:Int):=(by omega)
   have q5:0 < x0_1.size:=(by have:(0:Int) < (x0_1.size:Int):=zD; omega)
   have hx5:∀ h:0 < x0_1.size,((x0_1[0]'h).toNat:Int)=bt x0_1 0:=bt_at x0_1 0
   clear p5
   have qi5:(0 < (x0_1.size:Int))=True:=eq_true zD
   replace q5:=eq_true q5
   go_wp2
   go_ret
   exact ⟨zS,by repeat (first | exact Drawn0.refl _ | apply Drawn0.step)⟩
end Go.Proofs.YtkpeembfagcpcaaDoor.T
