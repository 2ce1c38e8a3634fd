/- The walk: the function returns true and changes nothing that was there. -/
import Derived.Test.YthfkajaeikhloaaGreatDoorLawInForceR0
import Derived.Test.YthfkajaeikhloaaGreatDoorLawInForceR1
import Derived.Test.YthfkajaeikhloaaGreatDoorLawInForceR2
import Derived.Test.YthfkajaeikhloaaGreatDoorLawInForceR3
import Derived.Test.YthfkajaeikhloaaGreatDoorLawInForceR4
import Derived.Test.YthfkajaeikhloaaGreatDoorLawInForceR5
import Derived.Test.YthfkajaeikhloaaGreatDoorLawInForceR6
import Derived.Test.YthfkajaeikhloaaGreatDoorLawInForceR7
import Derived.WalkKit
import Derived.ProofKit
import Derived.OpenShut
import Derived.LaidMore
import Derived.Lay
import Derived.LaidOnce
import Derived.SevenTiedAt
import Derived.ChangeSame
import Derived.Below
import Derived.Handed
namespace Go.Proofs.YthfkajaeikhloaaGreatDoor.lawInForce
open Go Go.Proofs.YthfkajaeikhloaaGreatDoor.Xq Go.ChangeShapes Go.WideShapes Go.ChangeAt Go.RowKit
set_option linter.unusedVariables false
theorem own : ownKnob Tryz.prog.godebug = none := by kernel_rfl
theorem laidOut : laidOutB Tryz.prog = true := by kernel_rfl
theorem size : Nat.ble Tryz.prog.globals.size 1000 = true := by kernel_rfl
theorem size5 : Nat.ble Tryz.prog.globals.size 500 = true := by kernel_rfl
theorem errT : errTOk Tryz.prog 276 = true := by kernel_rfl
theorem walk (a0 : Int) (w0 : (Lit.int .i64 a0).wf = true) (a1 : Int) (w1 : (Lit.int .i64 a1).wf = true) (a2 : Int) (w2 : (Lit.int .i64 a2).wf = true) (w : World) (hL : laidMetH Tryz.prog Rows.lawInForceRow.laid w) :
    Calls Tryz.prog 3 #[.int .i64 a0, .int .i64 a1, .int .i64 a2] w fun e w' => e = .returned (.bool true) ∧ Below w.heap.size w w' := by
  rw [MakeChecks.laidMetH_plain _ _ _ (by kernel_rfl)] at hL
  have ir := range64 w0
  have hr : -4 < a0.tmod 4 ∧ a0.tmod 4 < 4 := ⟨Int.lt_tmod_of_pos a0 (by decide), Int.tmod_lt_of_pos a0 (by decide)⟩
  by_cases c0 : a0.tmod 4 = -3
  · exact law_of_run1 (σ := σI a0 a1 a2 (-3)) (ς := fun _ => ByteArray.empty) (by kernel_rfl) smSgok (Nat.le_of_ble_eq_true size5) (by rw [← gls_eq]; exact laid_all1 size5 errT hL) (syI_ok ir (range64 w1) (range64 w2) (by decide) c0 rfl) (VRL.cons (show VR _ (AV.sym 0) _ from ⟨a0, rfl, rfl⟩) (VRL.cons (show VR _ (AV.sym 1) _ from ⟨a1, rfl, rfl⟩) (VRL.cons (show VR _ (AV.sym 2) _ from ⟨a2, rfl, rfl⟩) VRL.nil))) (run_r0 (tyOf w)) (by kernel_rfl)
  by_cases c1 : a0.tmod 4 = -2
  · exact law_of_run1 (σ := σI a0 a1 a2 (-2)) (ς := fun _ => ByteArray.empty) (by kernel_rfl) smSgok (Nat.le_of_ble_eq_true size5) (by rw [← gls_eq]; exact laid_all1 size5 errT hL) (syI_ok ir (range64 w1) (range64 w2) (by decide) c1 rfl) (VRL.cons (show VR _ (AV.sym 0) _ from ⟨a0, rfl, rfl⟩) (VRL.cons (show VR _ (AV.sym 1) _ from ⟨a1, rfl, rfl⟩) (VRL.cons (show VR _ (AV.sym 2) _ from ⟨a2, rfl, rfl⟩) VRL.nil))) (run_r1 (tyOf w)) (by kernel_rfl)
  by_cases c2 : a0.tmod 4 = -1
  · exact law_of_run1 (σ := σI a0 a1 a2 (-1)) (ς := fun _ => ByteArray.empty) (by kernel_rfl) smSgok (Nat.le_of_ble_eq_true size5) (by rw [← gls_eq]; exact laid_all1 size5 errT hL) (syI_ok ir (range64 w1) (range64 w2) (by decide) c2 rfl) (VRL.cons (show VR _ (AV.sym 0) _ from ⟨a0, rfl, rfl⟩) (VRL.cons (show VR _ (AV.sym 1) _ from ⟨a1, rfl, rfl⟩) (VRL.cons (show VR _ (AV.sym 2) _ from ⟨a2, rfl, rfl⟩) VRL.nil))) (run_r2 (tyOf w)) (by kernel_rfl)
  by_cases c3 : a0.tmod 4 = 0
  · exact law_of_run1 (σ := σI a0 a1 a2 (0)) (ς := fun _ => ByteArray.empty) (by kernel_rfl) smSgok (Nat.le_of_ble_eq_true size5) (by rw [← gls_eq]; exact laid_all1 size5 errT hL) (syI_ok ir (range64 w1) (range64 w2) (by decide) c3 rfl) (VRL.cons (show VR _ (AV.sym 0) _ from ⟨a0, rfl, rfl⟩) (VRL.cons (show VR _ (AV.sym 1) _ from ⟨a1, rfl, rfl⟩) (VRL.cons (show VR _ (AV.sym 2) _ from ⟨a2, rfl, rfl⟩) VRL.nil))) (run_r3 (tyOf w)) (by kernel_rfl)
  by_cases c4 : a0.tmod 4 = 1
  · exact law_of_run1 (σ := σI a0 a1 a2 (1)) (ς := fun _ => ByteArray.empty) (by kernel_rfl) smSgok (Nat.le_of_ble_eq_true size5) (by rw [← gls_eq]; exact laid_all1 size5 errT hL) (syI_ok ir (range64 w1) (range64 w2) (by decide) c4 rfl) (VRL.cons (show VR _ (AV.sym 0) _ from ⟨a0, rfl, rfl⟩) (VRL.cons (show VR _ (AV.sym 1) _ from ⟨a1, rfl, rfl⟩) (VRL.cons (show VR _ (AV.sym 2) _ from ⟨a2, rfl, rfl⟩) VRL.nil))) (run_r4 (tyOf w)) (by kernel_rfl)
  by_cases c5 : a0.tmod 4 = 2
  · exact law_of_run1 (σ := σI a0 a1 a2 (2)) (ς := fun _ => ByteArray.empty) (by kernel_rfl) smSgok (Nat.le_of_ble_eq_true size5) (by rw [← gls_eq]; exact laid_all1 size5 errT hL) (syI_ok ir (range64 w1) (range64 w2) (by decide) c5 rfl) (VRL.cons (show VR _ (AV.sym 0) _ from ⟨a0, rfl, rfl⟩) (VRL.cons (show VR _ (AV.sym 1) _ from ⟨a1, rfl, rfl⟩) (VRL.cons (show VR _ (AV.sym 2) _ from ⟨a2, rfl, rfl⟩) VRL.nil))) (run_r5 (tyOf w)) (by kernel_rfl)
  by_cases c6 : a0.tmod 4 = 3
  · exact law_of_run1 (σ := σI a0 a1 a2 (3)) (ς := fun _ => ByteArray.empty) (by kernel_rfl) smSgok (Nat.le_of_ble_eq_true size5) (by rw [← gls_eq]; exact laid_all1 size5 errT hL) (syI_ok ir (range64 w1) (range64 w2) (by decide) c6 rfl) (VRL.cons (show VR _ (AV.sym 0) _ from ⟨a0, rfl, rfl⟩) (VRL.cons (show VR _ (AV.sym 1) _ from ⟨a1, rfl, rfl⟩) (VRL.cons (show VR _ (AV.sym 2) _ from ⟨a2, rfl, rfl⟩) VRL.nil))) (run_r6 (tyOf w)) (by kernel_rfl)
  omega
end Go.Proofs.YthfkajaeikhloaaGreatDoor.lawInForce
