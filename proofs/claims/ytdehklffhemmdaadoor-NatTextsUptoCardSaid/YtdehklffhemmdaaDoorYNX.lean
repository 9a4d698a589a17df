import Derived.Test.YtdehklffhemmdaaDoorYDC
import Derived.Test.YtdehklffhemmdaaDoorYXR
namespace Go.Proofs.YtdehklffhemmdaaDoor.G
open Go.Proofs.YtdehklffhemmdaaDoor.U Go.RowKit Go.Proofs.YtdehklffhemmdaaDoor.D Go.Proofs.YtdehklffhemmdaaDoor.X Go.Proofs.YtdehklffhemmdaaDoorW.PrintWords Go.Proofs.YtdehklffhemmdaaDoorW.PrintLast Go.Proofs.YtdehklffhemmdaaDoorW.PrintMore
set_option linter.unusedVariables false
set_option maxRecDepth 100000
theorem nt_some {α:Type} {g:Nat→Option α} {r:α} (h:Ev g r):∃ k,g k=some r:=let ⟨K,hK⟩:=h; ⟨K,hK K (Nat.le_refl _)⟩
theorem ntext_k {a:ByteArray} (ha:a.size≤1099511627776):CSpec Tryd.prog 4 #[.string a] (.string (SB.decB (SB.lo (M.V a)))):=fun w _=>by
  obtain ⟨k,hk⟩:=nt_some (SB.text_spec a ha)
  exact (nat_Text.calls k a _ w hk).mono fun e w' h=>⟨h.1,h.2⟩
theorem nread_k {s:ByteArray}:CSpec Tryd.prog 5 #[.string s] (.tuple #[.string (SB.readN s).1,.int .i64 (SB.readN s).2]):=fun w _=>by
  obtain ⟨k,hk⟩:=nt_some (SB.read_spec s)
  exact (nat_Read.calls k s _ _ w hk).mono fun e w' h=>⟨h.1,h.2⟩
theorem rnum_k {s:ByteArray}:CSpec Tryd.prog 6 #[.string s] (.tuple #[.string (SB.readN s).1,.int .i64 (SB.readN s).2]):=fun w _=>by
  obtain ⟨k,hk⟩:=nt_some (SB.numeral_spec s)
  exact (gantref1_Numeral.calls k s _ _ w hk).mono fun e w' h=>⟨h.1,h.2⟩
theorem t256_k:CSpec Tryd.prog 4 #[.string ⟨#[1,0]⟩] (.string ⟨#[50,53,54]⟩):=by
  have h:=ntext_k (a:=⟨#[1,0]⟩) (by decide)
  have e:SB.decB (SB.lo (M.V ⟨#[1,0]⟩))=⟨#[50,53,54]⟩:=by
    have e1:M.V ⟨#[1,0]⟩=256:=by decide +kernel
    rw [e1,SB.lo_s (by decide),SB.lo_s (by decide),SB.lo_s (by decide),show 256/10/10/10=0 by decide,SB.lo_0]
    decide +kernel
  rwa [e] at h
theorem natTexts_w {a s:ByteArray} (ha:a.size≤1099511627776):CSpec Tryd.prog 3 #[.string a,.string s] (.bool true) :=
  fn_ok Tryd.func3 (sc:=[(1,0,.fix (.string ⟨#[50,53,54]⟩)),(3,1,.fix (.tuple #[.string (SB.readN s).1,.int .i64 (SB.readN s).2])),(4,1,.fix (.tuple #[.string (SB.readN s).1,.int .i64 (SB.readN s).2])),(5,1,.fix (.string (SB.decB (SB.lo (M.V a))))),(5,3,.fix (.string (SB.decB (SB.lo (M.V a))))),(5,4,.is (.c (.bool true))),(5,8,.is (.c (.bool true))),(5,13,.is (.c (.bool true)))]) (sb:=[]) (by kernel_rfl)
    (hC t256_k (hC (nread_k (s:=s)) (hC (rnum_k (s:=s)) (hC (ntext_k ha) (hC (decimal_k ha) (hP (isB (show ((SB.decB (SB.lo (M.V a))).toList==(SB.decB (SB.lo (M.V a))).toList)=true from beq_self_eq_true _)) (hP (isB (show ((SB.readN s).1.toList==(SB.readN s).1.toList)=true from beq_self_eq_true _)) (hP (isB (show decide ((SB.readN s).2=(SB.readN s).2)=true from decide_eq_true rfl)) hN))))))))
theorem natTexts_law (a s:ByteArray) (ha:a.size≤1048576) (hs:s.size≤1048576):CSpec Tryd.prog 3 #[.string a,.string s] (.bool true):=natTexts_w (by omega)
end Go.Proofs.YtdehklffhemmdaaDoor.G
