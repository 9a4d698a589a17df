import Derived.Test.YtbfpmofhopglfaaGreatDoorYR0
import Derived.Test.YtbfpmofhopglfaaGreatDoorYR1
import Derived.Test.YtbfpmofhopglfaaGreatDoorYR2
import Derived.Test.YtbfpmofhopglfaaGreatDoorYZ
namespace Go.Proofs.YtbfpmofhopglfaaGreatDoor.R
open Go.RowKit Go.Proofs.YtbfpmofhopglfaaGreatDoor.Z Go.Proofs.YtbfpmofhopglfaaGreatDoor.A Go.Proofs.YtbfpmofhopglfaaGreatDoor.H Go.Proofs.YtbfpmofhopglfaaGreatDoor.B Go.Proofs.YtbfpmofhopglfaaGreatDoorW.PrintWords Go.Proofs.YtbfpmofhopglfaaGreatDoorW.PrintLast Go.Proofs.YtbfpmofhopglfaaGreatDoorW.PrintMore
attribute [local go_sem] max2_int min2_int max_two min_two max_three min_three max_four min_four
set_option linter.unusedVariables false
set_option linter.unusedSimpArgs false
set_option maxHeartbeats 8000000
set_option maxRecDepth 100000
def gantref1_Squared.l0:Nat→ByteArray→ByteArray→ByteArray→Int→Option (ByteArray)
 | 0,_,_,_,_=>none
 | k+1,x0,x3,x4,x5=>if x5≥0 then ((gantref1_Plus.f k x3 x3).bind fun t171=>((gantref1_Plus.f k x4 x4).bind fun t172=>((gantref1_Plus.f k t172 t172).bind fun t173=>((gantref1_bit.f x0 (wrap64 ((wrap64 (2*x5))+1))).bind fun t174=>((gantref1_bit.f x0 (wrap64 (2*x5))).bind fun t175=>((gantref1_Plus.f k t173 (strOfNums (([(wrap64 ((wrap64 (2*t174))+t175))%256]:List Int)))).bind fun t179=>((gantref1_Plus.f k t171 t171).bind fun t180=>((gantref1_Plus.f k t180 (⟨#[1]⟩:ByteArray)).bind fun t181=>((gantref1_Compare.f k t179 t181).bind fun t182=>(if t182≥0 then ((gantref1_Plus.f k t171 (⟨#[1]⟩:ByteArray)).bind fun t183=>((gantref1_Less.f k t179 t181).bind fun t184=>(gantref1_Squared.l0 k x0 t183 t184 (wrap64 (x5 - 1))))) else (gantref1_Squared.l0 k x0 t171 t179 (wrap64 (x5 - 1))))))))))))) else (some x3)
def gantref1_Squared.f (k:Nat) (a0:ByteArray):Option (ByteArray):=gantref1_Squared.l0 k a0 (⟨#[]⟩:ByteArray) (⟨#[]⟩:ByteArray) (wrap64 ((wrap64 (4*(a0.size:Int))) - 1))
theorem gantref1_Squared.mono_l:∀ k,(∀ y0 y1 y2 y3,LeO (gantref1_Squared.l0 k y0 y1 y2 y3) (gantref1_Squared.l0 (k+1) y0 y1 y2 y3))
 | 0=>fun _ _ _ _ r h=>by simp [gantref1_Squared.l0] at h
 | k+1=>by
  have ih0:=gantref1_Squared.mono_l k
  intro y0 y1 y2 y3
  unfold gantref1_Squared.l0
  have m0:=@gantref1_Compare.mono
  have m1:=@gantref1_Less.mono
  have m2:=@gantref1_Plus.mono
  exact zM
theorem gantref1_Squared.mono:∀ a0 k,LeO (gantref1_Squared.f k a0) (gantref1_Squared.f (k+1) a0):=by
 intro a0 k
 have ih0:=gantref1_Squared.mono_l k
 unfold gantref1_Squared.f
 have m0:=@gantref1_Compare.mono
 have m1:=@gantref1_Less.mono
 have m2:=@gantref1_Plus.mono
 exact zM
theorem gantref1_Squared.calls (k:Nat) (a0:ByteArray) (r:ByteArray) (w:World) (h:gantref1_Squared.f k a0=some r) :
  Calls Tryz.prog 29 #[.string a0] w fun e w'=>e = .returned (.string r)∧Below w.heap.size w w':=by
 have HB:=Aside0.mk (Below.refl w.heap.size w)
 unfold gantref1_Squared.f at h
 have H:=h
 clear h
 have H':=Aside0.mk H
 clear H
 go_enter Tryz.func29,Tryz.ntmps29
 go_wp2
 go_loopg [3,4,5] k (fun kq v3 v4 v5 w'=>∃ (x3_1:ByteArray) (x4_1:ByteArray) (x5_1:Int),v3 = .string x3_1∧v4 = .string x4_1∧v5 = .int .i64 x5_1∧Aside0 (gantref1_Squared.l0 kq a0 x3_1 x4_1 x5_1=some r)∧Aside0 (kq≤k)∧Aside0 (Below w.heap.size w w'))
 case atStart=>exact ⟨((⟨#[]⟩:ByteArray)),((⟨#[]⟩:ByteArray)),(wrap64 ((wrap64 (4*(a0.size:Int))) - 1)),zS,zS,zS,H',⟨Nat.le_refl _⟩,⟨zB⟩⟩
 case round =>
  clear H'
  obtain ⟨x3_1,x4_1,x5_1,rfl,rfl,rfl,HA,HK1,HB⟩:=hrel
  cases gk with
  | zero=>exact absurd HA.out (by simp [gantref1_Squared.l0])
  | succ k1 =>
   have H:=HA.out
   clear HA
   simp only [gantref1_Squared.l0] at H
   by_cases c2:x5_1≥0
   rotate_left
   ·rw [if_neg c2] at H
    have c2b0:decide (0≤x5_1)=false:=decide_eq_false c2
    clear c2
    obtain rfl:=Option.some.inj H
    go_wp2
    go_ret
    exact ⟨zR,zB⟩
   rw [if_pos c2] at H
   have c2b0:decide (0≤x5_1)=true:=decide_eq_true c2
   clear c2
   obtain ⟨t171,A3,H⟩:=zH H
   obtain ⟨t172,A4,H⟩:=zH H
   obtain ⟨t173,A5,H⟩:=zH H
   obtain ⟨t174,A6,H⟩:=zH H
   obtain ⟨t175,A7,H⟩:=zH H
   obtain ⟨y176,Ny176⟩:∃ y_:List Int,Aside0 (y_=(([(wrap64 ((wrap64 (2*t174))+t175))%256]:List Int))):=⟨_,⟨rfl⟩⟩
   replace H:((gantref1_Plus.f k1 t173 (strOfNums y176)).bind fun t179=>((gantref1_Plus.f k1 t171 t171).bind fun t180=>((gantref1_Plus.f k1 t180 (⟨#[1]⟩:ByteArray)).bind fun t181=>((gantref1_Compare.f k1 t179 t181).bind fun t182=>(if t182≥0 then ((gantref1_Plus.f k1 t171 (⟨#[1]⟩:ByteArray)).bind fun t183=>((gantref1_Less.f k1 t179 t181).bind fun t184=>(gantref1_Squared.l0 k1 a0 t183 t184 (wrap64 (x5_1 - 1))))) else (gantref1_Squared.l0 k1 a0 t171 t179 (wrap64 (x5_1 - 1))))))))=some r:=zY Ny176 H
   obtain ⟨t179,A8,H⟩:=zH H
   obtain ⟨t180,A9,H⟩:=zH H
   obtain ⟨t181,A10,H⟩:=zH H
   obtain ⟨t182,A11,H⟩:=zH H
   by_cases c12:t182≥0
   ·rw [if_pos c12] at H
    have c12b0:decide (0≤t182)=true:=decide_eq_true c12
    clear c12
    obtain ⟨t183,A13,H⟩:=zH H
    obtain ⟨t184,A14,H⟩:=zH H
    have H':=Aside0.mk H
    clear H
    go_wp2_with (first | ((with_reducible refine zG 49 ?_); refine zL 17 Tryz.func49 #[.string x3_1,.string x3_1] ?_; (with_reducible refine (gantref1_Plus.calls k1 x3_1 x3_1 t171 _ A3.out).mono ?_); rintro e w15 ⟨rfl,hb⟩; refine ⟨_,rfl,?_⟩; replace HB:=zP hb; (try clear hb)) | ((with_reducible refine zG 49 ?_); refine zL 20 Tryz.func49 #[.string x4_1,.string x4_1] ?_; (with_reducible refine (gantref1_Plus.calls k1 x4_1 x4_1 t172 _ A4.out).mono ?_); rintro e w16 ⟨rfl,hb⟩; refine ⟨_,rfl,?_⟩; replace HB:=zP hb; (try clear hb)) | ((with_reducible refine zG 49 ?_); refine zL 23 Tryz.func49 #[.string t172,.string t172] ?_; (with_reducible refine (gantref1_Plus.calls k1 t172 t172 t173 _ A5.out).mono ?_); rintro e w17 ⟨rfl,hb⟩; refine ⟨_,rfl,?_⟩; replace HB:=zP hb; (try clear hb)) | ((with_reducible refine zG 50 ?_); refine zL 28 Tryz.func50 #[.string a0,.int .i64 (wrap64 ((wrap64 (2*x5_1))+1))] ?_; (with_reducible refine (gantref1_bit.calls a0 (wrap64 ((wrap64 (2*x5_1))+1)) t174 _ A6.out).mono ?_); rintro e w' ⟨rfl,⟨nd,rfl⟩⟩; refine ⟨_,rfl,?_⟩) | ((with_reducible refine zG 50 ?_); refine zL 33 Tryz.func50 #[.string a0,.int .i64 (wrap64 (2*x5_1))] ?_; (with_reducible refine (gantref1_bit.calls a0 (wrap64 (2*x5_1)) t175 _ A7.out).mono ?_); rintro e w' ⟨rfl,⟨nd,rfl⟩⟩; refine ⟨_,rfl,?_⟩) | ((with_reducible refine gate_dst (N:=36) rfl ?_); refine Kd.R_lit (Kd.int .u8) _ 5 ?hg (N:=36) ?hd (xs:=([(wrap64 ((wrap64 (2*t174))+t175))%256]:List Int)) (inner:=[.int .u8 ((wrap64 ((wrap64 (2*t174))+t175))%256)]) (ok:=fun _=>True) (okp:=fun _=>True) ?hr ?hp (fun _ hk=>hk) trivial (Below.refl _ _) (Nat.le_refl _) (by simp) ?_; (case hd=>rfl); (case hg=>rfl); (case hr=>first | (go_simp; done) | (go_simp; rfl)); (case hp=>exact (Reps.one (show Kd.M (Kd.int .u8) _ _ _ ((wrap64 ((wrap64 (2*t174))+t175))%256) [.int .u8 ((wrap64 ((wrap64 (2*t174))+t175))%256)] from rfl) (Reps.none _ _))); intro v177 w18 ho19 hb hg_ hnew_; clear hg_ hnew_; (first | rw [← Ny176.out] at ho19 | (simp only [Int.reduceToNat] at ho19; rw [← Ny176.out] at ho19)); have HO178:=Aside0.mk (Kd.R_lower ho19 (below_size zB)); replace HB:=zP hb; clear hb ho19; have hcv20:=own_string (P:=Tryz.prog) Tryz.underlying75 Tryz.underlying5 Tryz.underlying9 (Kd.own_of_R HO178.out)) | ((with_reducible refine zG 49 ?_); refine zL 38 Tryz.func49 #[.string t173,.string (strOfNums y176)] ?_; (with_reducible refine (gantref1_Plus.calls k1 t173 (strOfNums y176) t179 _ A8.out).mono ?_); rintro e w21 ⟨rfl,hb⟩; refine ⟨_,rfl,?_⟩; replace HO178:=Aside0.mk (Kd.R_below (zO HO178) hb); replace HB:=zP hb; (try clear hb)) | ((with_reducible refine zG 49 ?_); refine zL 41 Tryz.func49 #[.string t171,.string t171] ?_; (with_reducible refine (gantref1_Plus.calls k1 t171 t171 t180 _ A9.out).mono ?_); rintro e w22 ⟨rfl,hb⟩; refine ⟨_,rfl,?_⟩; replace HO178:=Aside0.mk (Kd.R_below (zO HO178) hb); replace HB:=zP hb; (try clear hb)) | ((with_reducible refine zG 49 ?_); refine zL 42 Tryz.func49 #[.string t180,.string (⟨#[1]⟩:ByteArray)] ?_; (with_reducible refine (gantref1_Plus.calls k1 t180 (⟨#[1]⟩:ByteArray) t181 _ A10.out).mono ?_); rintro e w23 ⟨rfl,hb⟩; refine ⟨_,rfl,?_⟩; replace HO178:=Aside0.mk (Kd.R_below (zO HO178) hb); replace HB:=zP hb; (try clear hb)) | ((with_reducible refine zG 78 ?_); refine zL 45 Tryz.func78 #[.string t179,.string t181] ?_; (with_reducible refine (gantref1_Compare.calls k1 t179 t181 t182 _ A11.out).mono ?_); rintro e w24 ⟨rfl,hb⟩; refine ⟨_,rfl,?_⟩; replace HO178:=Aside0.mk (Kd.R_below (zO HO178) hb); replace HB:=zP hb; (try clear hb)) | ((with_reducible refine zG 49 ?_); refine zL 48 Tryz.func49 #[.string t171,.string (⟨#[1]⟩:ByteArray)] ?_; (with_reducible refine (gantref1_Plus.calls k1 t171 (⟨#[1]⟩:ByteArray) t183 _ A13.out).mono ?_); rintro e w25 ⟨rfl,hb⟩; refine ⟨_,rfl,?_⟩; replace HO178:=Aside0.mk (Kd.R_below (zO HO178) hb); replace HB:=zP hb; (try clear hb)) | ((with_reducible refine zG 79 ?_); refine zL 51 Tryz.func79 #[.string t179,.string t181] ?_; (with_reducible refine (gantref1_Less.calls k1 t179 t181 t184 _ A14.out).mono ?_); rintro e w26 ⟨rfl,hb⟩; refine ⟨_,rfl,?_⟩; replace HO178:=Aside0.mk (Kd.R_below (zO HO178) hb); replace HB:=zP hb; (try clear hb)))
    go_roundg k1
    case measure=>have:=HK1.out; omega
    case rel=>exact ⟨(t183),(t184),(wrap64 (x5_1 - 1)),zS,zS,zS,H',⟨by have:=HK1.out; omega⟩,⟨zB⟩⟩
   rw [if_neg c12] at H
   have c12b0:decide (0≤t182)=false:=decide_eq_false c12
   clear c12
   have H':=Aside0.mk H
   clear H
   go_wp2_with (first | ((with_reducible refine zG 49 ?_); refine zL 17 Tryz.func49 #[.string x3_1,.string x3_1] ?_; (with_reducible refine (gantref1_Plus.calls k1 x3_1 x3_1 t171 _ A3.out).mono ?_); rintro e w27 ⟨rfl,hb⟩; refine ⟨_,rfl,?_⟩; replace HB:=zP hb; (try clear hb)) | ((with_reducible refine zG 49 ?_); refine zL 20 Tryz.func49 #[.string x4_1,.string x4_1] ?_; (with_reducible refine (gantref1_Plus.calls k1 x4_1 x4_1 t172 _ A4.out).mono ?_); rintro e w28 ⟨rfl,hb⟩; refine ⟨_,rfl,?_⟩; replace HB:=zP hb; (try clear hb)) | ((with_reducible refine zG 49 ?_); refine zL 23 Tryz.func49 #[.string t172,.string t172] ?_; (with_reducible refine (gantref1_Plus.calls k1 t172 t172 t173 _ A5.out).mono ?_); rintro e w29 ⟨rfl,hb⟩; refine ⟨_,rfl,?_⟩; replace HB:=zP hb; (try clear hb)) | ((with_reducible refine zG 50 ?_); refine zL 28 Tryz.func50 #[.string a0,.int .i64 (wrap64 ((wrap64 (2*x5_1))+1))] ?_; (with_reducible refine (gantref1_bit.calls a0 (wrap64 ((wrap64 (2*x5_1))+1)) t174 _ A6.out).mono ?_); rintro e w' ⟨rfl,⟨nd,rfl⟩⟩; refine ⟨_,rfl,?_⟩) | ((with_reducible refine zG 50 ?_); refine zL 33 Tryz.func50 #[.string a0,.int .i64 (wrap64 (2*x5_1))] ?_; (with_reducible refine (gantref1_bit.calls a0 (wrap64 (2*x5_1)) t175 _ A7.out).mono ?_); rintro e w' ⟨rfl,⟨nd,rfl⟩⟩; refine ⟨_,rfl,?_⟩) | ((with_reducible refine gate_dst (N:=36) rfl ?_); refine Kd.R_lit (Kd.int .u8) _ 5 ?hg (N:=36) ?hd (xs:=([(wrap64 ((wrap64 (2*t174))+t175))%256]:List Int)) (inner:=[.int .u8 ((wrap64 ((wrap64 (2*t174))+t175))%256)]) (ok:=fun _=>True) (okp:=fun _=>True) ?hr ?hp (fun _ hk=>hk) trivial (Below.refl _ _) (Nat.le_refl _) (by simp) ?_; (case hd=>rfl); (case hg=>rfl); (case hr=>first | (go_simp; done) | (go_simp; rfl)); (case hp=>exact (Reps.one (show Kd.M (Kd.int .u8) _ _ _ ((wrap64 ((wrap64 (2*t174))+t175))%256) [.int .u8 ((wrap64 ((wrap64 (2*t174))+t175))%256)] from rfl) (Reps.none _ _))); intro v177 w30 ho31 hb hg_ hnew_; clear hg_ hnew_; (first | rw [← Ny176.out] at ho31 | (simp only [Int.reduceToNat] at ho31; rw [← Ny176.out] at ho31)); have HO178:=Aside0.mk (Kd.R_lower ho31 (below_size zB)); replace HB:=zP hb; clear hb ho31; have hcv32:=own_string (P:=Tryz.prog) Tryz.underlying75 Tryz.underlying5 Tryz.underlying9 (Kd.own_of_R HO178.out)) | ((with_reducible refine zG 49 ?_); refine zL 38 Tryz.func49 #[.string t173,.string (strOfNums y176)] ?_; (with_reducible refine (gantref1_Plus.calls k1 t173 (strOfNums y176) t179 _ A8.out).mono ?_); rintro e w33 ⟨rfl,hb⟩; refine ⟨_,rfl,?_⟩; replace HO178:=Aside0.mk (Kd.R_below (zO HO178) hb); replace HB:=zP hb; (try clear hb)) | ((with_reducible refine zG 49 ?_); refine zL 41 Tryz.func49 #[.string t171,.string t171] ?_; (with_reducible refine (gantref1_Plus.calls k1 t171 t171 t180 _ A9.out).mono ?_); rintro e w34 ⟨rfl,hb⟩; refine ⟨_,rfl,?_⟩; replace HO178:=Aside0.mk (Kd.R_below (zO HO178) hb); replace HB:=zP hb; (try clear hb)) | ((with_reducible refine zG 49 ?_); refine zL 42 Tryz.func49 #[.string t180,.string (⟨#[1]⟩:ByteArray)] ?_; (with_reducible refine (gantref1_Plus.calls k1 t180 (⟨#[1]⟩:ByteArray) t181 _ A10.out).mono ?_); rintro e w35 ⟨rfl,hb⟩; refine ⟨_,rfl,?_⟩; replace HO178:=Aside0.mk (Kd.R_below (zO HO178) hb); replace HB:=zP hb; (try clear hb)) | ((with_reducible refine zG 78 ?_); refine zL 45 Tryz.func78 #[.string t179,.string t181] ?_; (with_reducible refine (gantref1_Compare.calls k1 t179 t181 t182 _ A11.out).mono ?_); rintro e w36 ⟨rfl,hb⟩; refine ⟨_,rfl,?_⟩; replace HO178:=Aside0.mk (Kd.R_below (zO HO178) hb); replace HB:=zP hb; (try clear hb)))
   go_roundg k1
   case measure=>have:=HK1.out; omega
   case rel=>exact ⟨(t171),(t179),(wrap64 (x5_1 - 1)),zS,zS,zS,H',⟨by have:=HK1.out; omega⟩,⟨zB⟩⟩
end Go.Proofs.YtbfpmofhopglfaaGreatDoor.R
