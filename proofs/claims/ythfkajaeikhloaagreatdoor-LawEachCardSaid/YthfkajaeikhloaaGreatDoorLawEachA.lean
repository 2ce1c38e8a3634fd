/- The walk: the function returns true and changes nothing that was there. -/
import Derived.Test.YthfkajaeikhloaaGreatDoorLawEachR0
import Derived.Test.YthfkajaeikhloaaGreatDoorLawEachR1
import Derived.Test.YthfkajaeikhloaaGreatDoorLawEachR2
import Derived.Test.YthfkajaeikhloaaGreatDoorLawEachR3
import Derived.Test.YthfkajaeikhloaaGreatDoorLawEachR4
import Derived.Test.YthfkajaeikhloaaGreatDoorLawEachR5
import Derived.Test.YthfkajaeikhloaaGreatDoorLawEachR6
import Derived.WalkKit
import Derived.ProofKit
import Derived.OpenShut
import Derived.LaidMore
import Derived.Lay
import Derived.LaidOnce
import Derived.SevenTiedAt
import Derived.ChangeSame
import Derived.Below
import Derived.Handed
namespace Go.Proofs.YthfkajaeikhloaaGreatDoor.lawEach
open Go Go.Proofs.YthfkajaeikhloaaGreatDoor.Xq Go.ChangeShapes Go.WideShapes Go.ChangeAt Go.RowKit
set_option linter.unusedVariables false
theorem own : ownKnob Tryz.prog.godebug = none := by kernel_rfl
theorem laidOut : laidOutB Tryz.prog = true := by kernel_rfl
theorem size : Nat.ble Tryz.prog.globals.size 1000 = true := by kernel_rfl
theorem size5 : Nat.ble Tryz.prog.globals.size 500 = true := by kernel_rfl
theorem errT : errTOk Tryz.prog 276 = true := by kernel_rfl
theorem walk (a0 : Int) (w0 : (Lit.int .i64 a0).wf = true) (w : World) (hL : laidMetH Tryz.prog Rows.lawEachRow.laid w) :
    Calls Tryz.prog 5 #[.int .i64 a0] w fun e w' => e = .returned (.bool true) ∧ Below w.heap.size w w' := by
  rw [MakeChecks.laidMetH_plain _ _ _ (by kernel_rfl)] at hL
  have ir := range64 w0
  by_cases c1 : a0 = 1
  · subst c1
    exact law_of_run1 (σ := σ2 1 0 0) (ς := fun _ => ByteArray.empty) (by kernel_rfl) smSgok (Nat.le_of_ble_eq_true size5) (by rw [← gls_eq]; exact laid_all1 size5 errT hL) (syC_ok (f := .excl []) (by decide) (by decide) (Nat.zero_le _) (fun x h => nomatch h) rfl) (VRL.cons (show VR _ (AV.int .i64 (1)) _ from rfl) VRL.nil) (run_i1 (tyOf w)) (by kernel_rfl)
  by_cases c2 : a0 = 2
  · subst c2
    exact law_of_run1 (σ := σ2 2 0 0) (ς := fun _ => ByteArray.empty) (by kernel_rfl) smSgok (Nat.le_of_ble_eq_true size5) (by rw [← gls_eq]; exact laid_all1 size5 errT hL) (syC_ok (f := .excl []) (by decide) (by decide) (Nat.zero_le _) (fun x h => nomatch h) rfl) (VRL.cons (show VR _ (AV.int .i64 (2)) _ from rfl) VRL.nil) (run_i2 (tyOf w)) (by kernel_rfl)
  by_cases c3 : a0 = 3
  · subst c3
    exact law_of_run1 (σ := σ2 3 0 0) (ς := fun _ => ByteArray.empty) (by kernel_rfl) smSgok (Nat.le_of_ble_eq_true size5) (by rw [← gls_eq]; exact laid_all1 size5 errT hL) (syC_ok (f := .excl []) (by decide) (by decide) (Nat.zero_le _) (fun x h => nomatch h) rfl) (VRL.cons (show VR _ (AV.int .i64 (3)) _ from rfl) VRL.nil) (run_i3 (tyOf w)) (by kernel_rfl)
  by_cases c4 : a0 = 4
  · subst c4
    exact law_of_run1 (σ := σ2 4 0 0) (ς := fun _ => ByteArray.empty) (by kernel_rfl) smSgok (Nat.le_of_ble_eq_true size5) (by rw [← gls_eq]; exact laid_all1 size5 errT hL) (syC_ok (f := .excl []) (by decide) (by decide) (Nat.zero_le _) (fun x h => nomatch h) rfl) (VRL.cons (show VR _ (AV.int .i64 (4)) _ from rfl) VRL.nil) (run_i4 (tyOf w)) (by kernel_rfl)
  by_cases cl : a0 < 1
  · have ih : (-9223372036854775808 : Int) ≤ a0 ∧ a0 ≤ 0 := by omega
    exact law_of_run1 (σ := σ2 a0 0 0) (ς := fun _ => ByteArray.empty) (by kernel_rfl) smSgok (Nat.le_of_ble_eq_true size5) (by rw [← gls_eq]; exact laid_all1 size5 errT hL) (syC_ok (f := .excl []) ih (by decide) (Nat.zero_le _) (fun x h => nomatch h) rfl) (VRL.cons (show VR _ (AV.sym 0) _ from ⟨a0, rfl, rfl⟩) VRL.nil) (run_il (tyOf w)) (by kernel_rfl)
  have ih : (5 : Int) ≤ a0 ∧ a0 ≤ 9223372036854775807 := by omega
  exact law_of_run1 (σ := σ2 a0 0 0) (ς := fun _ => ByteArray.empty) (by kernel_rfl) smSgok (Nat.le_of_ble_eq_true size5) (by rw [← gls_eq]; exact laid_all1 size5 errT hL) (syC_ok (f := .excl []) ih (by decide) (Nat.zero_le _) (fun x h => nomatch h) rfl) (VRL.cons (show VR _ (AV.sym 0) _ from ⟨a0, rfl, rfl⟩) VRL.nil) (run_ih (tyOf w)) (by kernel_rfl)
end Go.Proofs.YthfkajaeikhloaaGreatDoor.lawEach
