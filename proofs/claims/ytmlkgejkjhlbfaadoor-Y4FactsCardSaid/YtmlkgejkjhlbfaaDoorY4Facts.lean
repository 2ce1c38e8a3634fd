/- Proved: the card of the statement Y4Facts, as it was given, with no condition of ours: whatever the input, the function returns true and its arguments read as before. -/
import Derived.Test.YtmlkgejkjhlbfaaDoorCards
import Derived.Test.YtmlkgejkjhlbfaaDoorTie
import Derived.Test.YtmlkgejkjhlbfaaDoorY4FactsR0
import Derived.Test.YtmlkgejkjhlbfaaDoorY4FactsR1
import Derived.Test.YtmlkgejkjhlbfaaDoorY4FactsR2
import Derived.WalkKit
import Derived.ProofKit
import Derived.OpenShut
import Derived.LaidMore
import Derived.Lay
import Derived.LaidOnce
import Derived.SevenTiedAt
import Derived.ChangeSame
import Derived.Below
import Derived.Handed
import Derived.ChangeMaps5
namespace Go.Proofs.YtmlkgejkjhlbfaaDoor.y4Facts
open Go Go.Proofs.YtmlkgejkjhlbfaaDoor.Xq Go.ChangeShapes Go.WideShapes Go.ChangeAt Go.RowKit
set_option linter.unusedVariables false
theorem own : ownKnob Tryd.prog.godebug = none := by kernel_rfl
theorem laidOut : laidOutB Tryd.prog = true := by kernel_rfl
theorem size : Nat.ble Tryd.prog.globals.size 1000 = true := by kernel_rfl
theorem walk (a0 : ByteArray) (w0 : a0.size ≤ maxLen) (a1 : Int) (w1 : (Lit.int .i64 a1).wf = true) (w : World) (hL : laidMetH Tryd.prog Rows.y4FactsRow.laid w) :
    Calls Tryd.prog 3 #[.string a0, .int .i64 a1] w fun e w' => e = .returned (.bool true) ∧ Below w.heap.size w w' := by
  rw [MakeChecks.laidMetH_plain _ _ _ (by kernel_rfl)] at hL
  have ir := range64 w1
  by_cases c0 : a1 = 0
  · subst c0
    by_cases s0 : a0.data.toList.length = 3 ∧ num a0.data.toList 0 = 6516841
    · exact law_of_run (σ := σ2 0 0 a0.size) (ς := fun _ => a0) (by kernel_rfl) smSfok (Nat.le_of_ble_eq_true size) (by rw [← gls_eq]; exact laid_all hL) (syC_ok (f := .known 3 6516841) (by decide) (by decide) (Nat.le_trans w0 (by decide)) s0 rfl) (VRL.cons (show VR _ (AV.strs 0 2) _ from ⟨rfl, rfl⟩) (VRL.cons (show VR _ (AV.int .i64 (0)) _ from rfl) VRL.nil)) (run_i0_s0 (tyOf w))
    by_cases s1 : a0.data.toList.length = 6 ∧ num a0.data.toList 0 = 112568466435954
    · exact law_of_run (σ := σ2 0 0 a0.size) (ς := fun _ => a0) (by kernel_rfl) smSfok (Nat.le_of_ble_eq_true size) (by rw [← gls_eq]; exact laid_all hL) (syC_ok (f := .known 6 112568466435954) (by decide) (by decide) (Nat.le_trans w0 (by decide)) s1 rfl) (VRL.cons (show VR _ (AV.strs 0 2) _ from ⟨rfl, rfl⟩) (VRL.cons (show VR _ (AV.int .i64 (0)) _ from rfl) VRL.nil)) (run_i0_s1 (tyOf w))
    by_cases s2 : a0.data.toList.length = 8 ∧ num a0.data.toList 0 = 8319381538418553444
    · exact law_of_run (σ := σ2 0 0 a0.size) (ς := fun _ => a0) (by kernel_rfl) smSfok (Nat.le_of_ble_eq_true size) (by rw [← gls_eq]; exact laid_all hL) (syC_ok (f := .known 8 8319381538418553444) (by decide) (by decide) (Nat.le_trans w0 (by decide)) s2 rfl) (VRL.cons (show VR _ (AV.strs 0 2) _ from ⟨rfl, rfl⟩) (VRL.cons (show VR _ (AV.int .i64 (0)) _ from rfl) VRL.nil)) (run_i0_s2 (tyOf w))
    by_cases s3 : a0.data.toList.length = 3 ∧ num a0.data.toList 0 = 7630704
    · exact law_of_run (σ := σ2 0 0 a0.size) (ς := fun _ => a0) (by kernel_rfl) smSfok (Nat.le_of_ble_eq_true size) (by rw [← gls_eq]; exact laid_all hL) (syC_ok (f := .known 3 7630704) (by decide) (by decide) (Nat.le_trans w0 (by decide)) s3 rfl) (VRL.cons (show VR _ (AV.strs 0 2) _ from ⟨rfl, rfl⟩) (VRL.cons (show VR _ (AV.int .i64 (0)) _ from rfl) VRL.nil)) (run_i0_s3 (tyOf w))
    by_cases s4 : a0.data.toList.length = 4 ∧ num a0.data.toList 0 = 1918989413
    · exact law_of_run (σ := σ2 0 0 a0.size) (ς := fun _ => a0) (by kernel_rfl) smSfok (Nat.le_of_ble_eq_true size) (by rw [← gls_eq]; exact laid_all hL) (syC_ok (f := .known 4 1918989413) (by decide) (by decide) (Nat.le_trans w0 (by decide)) s4 rfl) (VRL.cons (show VR _ (AV.strs 0 2) _ from ⟨rfl, rfl⟩) (VRL.cons (show VR _ (AV.int .i64 (0)) _ from rfl) VRL.nil)) (run_i0_s4 (tyOf w))
    by_cases s5 : a0.data.toList.length = 6 ∧ num a0.data.toList 0 = 109342978500980
    · exact law_of_run (σ := σ2 0 0 a0.size) (ς := fun _ => a0) (by kernel_rfl) smSfok (Nat.le_of_ble_eq_true size) (by rw [← gls_eq]; exact laid_all hL) (syC_ok (f := .known 6 109342978500980) (by decide) (by decide) (Nat.le_trans w0 (by decide)) s5 rfl) (VRL.cons (show VR _ (AV.strs 0 2) _ from ⟨rfl, rfl⟩) (VRL.cons (show VR _ (AV.int .i64 (0)) _ from rfl) VRL.nil)) (run_i0_s5 (tyOf w))
    by_cases s6 : a0.data.toList.length = 5 ∧ num a0.data.toList 0 = 482787554149
    · exact law_of_run (σ := σ2 0 0 a0.size) (ς := fun _ => a0) (by kernel_rfl) smSfok (Nat.le_of_ble_eq_true size) (by rw [← gls_eq]; exact laid_all hL) (syC_ok (f := .known 5 482787554149) (by decide) (by decide) (Nat.le_trans w0 (by decide)) s6 rfl) (VRL.cons (show VR _ (AV.strs 0 2) _ from ⟨rfl, rfl⟩) (VRL.cons (show VR _ (AV.int .i64 (0)) _ from rfl) VRL.nil)) (run_i0_s6 (tyOf w))
    exact law_of_run (σ := σ2 0 0 a0.size) (ς := fun _ => a0) (by kernel_rfl) smSfok (Nat.le_of_ble_eq_true size) (by rw [← gls_eq]; exact laid_all hL) (syC_ok (f := .excl [(3, 6516841), (6, 112568466435954), (8, 8319381538418553444), (3, 7630704), (4, 1918989413), (6, 109342978500980), (5, 482787554149)]) (by decide) (by decide) (Nat.le_trans w0 (by decide)) (List.forall_mem_cons.2 ⟨s0, List.forall_mem_cons.2 ⟨s1, List.forall_mem_cons.2 ⟨s2, List.forall_mem_cons.2 ⟨s3, List.forall_mem_cons.2 ⟨s4, List.forall_mem_cons.2 ⟨s5, List.forall_mem_cons.2 ⟨s6, fun x h => nomatch h⟩⟩⟩⟩⟩⟩⟩) rfl) (VRL.cons (show VR _ (AV.strs 0 2) _ from ⟨rfl, rfl⟩) (VRL.cons (show VR _ (AV.int .i64 (0)) _ from rfl) VRL.nil)) (run_i0_sx (tyOf w))
  by_cases c1 : a1 = 1
  · subst c1
    by_cases s0 : a0.data.toList.length = 3 ∧ num a0.data.toList 0 = 6516841
    · exact law_of_run (σ := σ2 1 0 a0.size) (ς := fun _ => a0) (by kernel_rfl) smSfok (Nat.le_of_ble_eq_true size) (by rw [← gls_eq]; exact laid_all hL) (syC_ok (f := .known 3 6516841) (by decide) (by decide) (Nat.le_trans w0 (by decide)) s0 rfl) (VRL.cons (show VR _ (AV.strs 0 2) _ from ⟨rfl, rfl⟩) (VRL.cons (show VR _ (AV.int .i64 (1)) _ from rfl) VRL.nil)) (run_i1_s0 (tyOf w))
    by_cases s1 : a0.data.toList.length = 6 ∧ num a0.data.toList 0 = 112568466435954
    · exact law_of_run (σ := σ2 1 0 a0.size) (ς := fun _ => a0) (by kernel_rfl) smSfok (Nat.le_of_ble_eq_true size) (by rw [← gls_eq]; exact laid_all hL) (syC_ok (f := .known 6 112568466435954) (by decide) (by decide) (Nat.le_trans w0 (by decide)) s1 rfl) (VRL.cons (show VR _ (AV.strs 0 2) _ from ⟨rfl, rfl⟩) (VRL.cons (show VR _ (AV.int .i64 (1)) _ from rfl) VRL.nil)) (run_i1_s1 (tyOf w))
    by_cases s2 : a0.data.toList.length = 8 ∧ num a0.data.toList 0 = 8319381538418553444
    · exact law_of_run (σ := σ2 1 0 a0.size) (ς := fun _ => a0) (by kernel_rfl) smSfok (Nat.le_of_ble_eq_true size) (by rw [← gls_eq]; exact laid_all hL) (syC_ok (f := .known 8 8319381538418553444) (by decide) (by decide) (Nat.le_trans w0 (by decide)) s2 rfl) (VRL.cons (show VR _ (AV.strs 0 2) _ from ⟨rfl, rfl⟩) (VRL.cons (show VR _ (AV.int .i64 (1)) _ from rfl) VRL.nil)) (run_i1_s2 (tyOf w))
    by_cases s3 : a0.data.toList.length = 3 ∧ num a0.data.toList 0 = 7630704
    · exact law_of_run (σ := σ2 1 0 a0.size) (ς := fun _ => a0) (by kernel_rfl) smSfok (Nat.le_of_ble_eq_true size) (by rw [← gls_eq]; exact laid_all hL) (syC_ok (f := .known 3 7630704) (by decide) (by decide) (Nat.le_trans w0 (by decide)) s3 rfl) (VRL.cons (show VR _ (AV.strs 0 2) _ from ⟨rfl, rfl⟩) (VRL.cons (show VR _ (AV.int .i64 (1)) _ from rfl) VRL.nil)) (run_i1_s3 (tyOf w))
    by_cases s4 : a0.data.toList.length = 4 ∧ num a0.data.toList 0 = 1918989413
    · exact law_of_run (σ := σ2 1 0 a0.size) (ς := fun _ => a0) (by kernel_rfl) smSfok (Nat.le_of_ble_eq_true size) (by rw [← gls_eq]; exact laid_all hL) (syC_ok (f := .known 4 1918989413) (by decide) (by decide) (Nat.le_trans w0 (by decide)) s4 rfl) (VRL.cons (show VR _ (AV.strs 0 2) _ from ⟨rfl, rfl⟩) (VRL.cons (show VR _ (AV.int .i64 (1)) _ from rfl) VRL.nil)) (run_i1_s4 (tyOf w))
    by_cases s5 : a0.data.toList.length = 6 ∧ num a0.data.toList 0 = 109342978500980
    · exact law_of_run (σ := σ2 1 0 a0.size) (ς := fun _ => a0) (by kernel_rfl) smSfok (Nat.le_of_ble_eq_true size) (by rw [← gls_eq]; exact laid_all hL) (syC_ok (f := .known 6 109342978500980) (by decide) (by decide) (Nat.le_trans w0 (by decide)) s5 rfl) (VRL.cons (show VR _ (AV.strs 0 2) _ from ⟨rfl, rfl⟩) (VRL.cons (show VR _ (AV.int .i64 (1)) _ from rfl) VRL.nil)) (run_i1_s5 (tyOf w))
    by_cases s6 : a0.data.toList.length = 5 ∧ num a0.data.toList 0 = 482787554149
    · exact law_of_run (σ := σ2 1 0 a0.size) (ς := fun _ => a0) (by kernel_rfl) smSfok (Nat.le_of_ble_eq_true size) (by rw [← gls_eq]; exact laid_all hL) (syC_ok (f := .known 5 482787554149) (by decide) (by decide) (Nat.le_trans w0 (by decide)) s6 rfl) (VRL.cons (show VR _ (AV.strs 0 2) _ from ⟨rfl, rfl⟩) (VRL.cons (show VR _ (AV.int .i64 (1)) _ from rfl) VRL.nil)) (run_i1_s6 (tyOf w))
    exact law_of_run (σ := σ2 1 0 a0.size) (ς := fun _ => a0) (by kernel_rfl) smSfok (Nat.le_of_ble_eq_true size) (by rw [← gls_eq]; exact laid_all hL) (syC_ok (f := .excl [(3, 6516841), (6, 112568466435954), (8, 8319381538418553444), (3, 7630704), (4, 1918989413), (6, 109342978500980), (5, 482787554149)]) (by decide) (by decide) (Nat.le_trans w0 (by decide)) (List.forall_mem_cons.2 ⟨s0, List.forall_mem_cons.2 ⟨s1, List.forall_mem_cons.2 ⟨s2, List.forall_mem_cons.2 ⟨s3, List.forall_mem_cons.2 ⟨s4, List.forall_mem_cons.2 ⟨s5, List.forall_mem_cons.2 ⟨s6, fun x h => nomatch h⟩⟩⟩⟩⟩⟩⟩) rfl) (VRL.cons (show VR _ (AV.strs 0 2) _ from ⟨rfl, rfl⟩) (VRL.cons (show VR _ (AV.int .i64 (1)) _ from rfl) VRL.nil)) (run_i1_sx (tyOf w))
  by_cases c2 : a1 = 2
  · subst c2
    by_cases s0 : a0.data.toList.length = 3 ∧ num a0.data.toList 0 = 6516841
    · exact law_of_run (σ := σ2 2 0 a0.size) (ς := fun _ => a0) (by kernel_rfl) smSfok (Nat.le_of_ble_eq_true size) (by rw [← gls_eq]; exact laid_all hL) (syC_ok (f := .known 3 6516841) (by decide) (by decide) (Nat.le_trans w0 (by decide)) s0 rfl) (VRL.cons (show VR _ (AV.strs 0 2) _ from ⟨rfl, rfl⟩) (VRL.cons (show VR _ (AV.int .i64 (2)) _ from rfl) VRL.nil)) (run_i2_s0 (tyOf w))
    by_cases s1 : a0.data.toList.length = 6 ∧ num a0.data.toList 0 = 112568466435954
    · exact law_of_run (σ := σ2 2 0 a0.size) (ς := fun _ => a0) (by kernel_rfl) smSfok (Nat.le_of_ble_eq_true size) (by rw [← gls_eq]; exact laid_all hL) (syC_ok (f := .known 6 112568466435954) (by decide) (by decide) (Nat.le_trans w0 (by decide)) s1 rfl) (VRL.cons (show VR _ (AV.strs 0 2) _ from ⟨rfl, rfl⟩) (VRL.cons (show VR _ (AV.int .i64 (2)) _ from rfl) VRL.nil)) (run_i2_s1 (tyOf w))
    by_cases s2 : a0.data.toList.length = 8 ∧ num a0.data.toList 0 = 8319381538418553444
    · exact law_of_run (σ := σ2 2 0 a0.size) (ς := fun _ => a0) (by kernel_rfl) smSfok (Nat.le_of_ble_eq_true size) (by rw [← gls_eq]; exact laid_all hL) (syC_ok (f := .known 8 8319381538418553444) (by decide) (by decide) (Nat.le_trans w0 (by decide)) s2 rfl) (VRL.cons (show VR _ (AV.strs 0 2) _ from ⟨rfl, rfl⟩) (VRL.cons (show VR _ (AV.int .i64 (2)) _ from rfl) VRL.nil)) (run_i2_s2 (tyOf w))
    by_cases s3 : a0.data.toList.length = 3 ∧ num a0.data.toList 0 = 7630704
    · exact law_of_run (σ := σ2 2 0 a0.size) (ς := fun _ => a0) (by kernel_rfl) smSfok (Nat.le_of_ble_eq_true size) (by rw [← gls_eq]; exact laid_all hL) (syC_ok (f := .known 3 7630704) (by decide) (by decide) (Nat.le_trans w0 (by decide)) s3 rfl) (VRL.cons (show VR _ (AV.strs 0 2) _ from ⟨rfl, rfl⟩) (VRL.cons (show VR _ (AV.int .i64 (2)) _ from rfl) VRL.nil)) (run_i2_s3 (tyOf w))
    by_cases s4 : a0.data.toList.length = 4 ∧ num a0.data.toList 0 = 1918989413
    · exact law_of_run (σ := σ2 2 0 a0.size) (ς := fun _ => a0) (by kernel_rfl) smSfok (Nat.le_of_ble_eq_true size) (by rw [← gls_eq]; exact laid_all hL) (syC_ok (f := .known 4 1918989413) (by decide) (by decide) (Nat.le_trans w0 (by decide)) s4 rfl) (VRL.cons (show VR _ (AV.strs 0 2) _ from ⟨rfl, rfl⟩) (VRL.cons (show VR _ (AV.int .i64 (2)) _ from rfl) VRL.nil)) (run_i2_s4 (tyOf w))
    by_cases s5 : a0.data.toList.length = 6 ∧ num a0.data.toList 0 = 109342978500980
    · exact law_of_run (σ := σ2 2 0 a0.size) (ς := fun _ => a0) (by kernel_rfl) smSfok (Nat.le_of_ble_eq_true size) (by rw [← gls_eq]; exact laid_all hL) (syC_ok (f := .known 6 109342978500980) (by decide) (by decide) (Nat.le_trans w0 (by decide)) s5 rfl) (VRL.cons (show VR _ (AV.strs 0 2) _ from ⟨rfl, rfl⟩) (VRL.cons (show VR _ (AV.int .i64 (2)) _ from rfl) VRL.nil)) (run_i2_s5 (tyOf w))
    by_cases s6 : a0.data.toList.length = 5 ∧ num a0.data.toList 0 = 482787554149
    · exact law_of_run (σ := σ2 2 0 a0.size) (ς := fun _ => a0) (by kernel_rfl) smSfok (Nat.le_of_ble_eq_true size) (by rw [← gls_eq]; exact laid_all hL) (syC_ok (f := .known 5 482787554149) (by decide) (by decide) (Nat.le_trans w0 (by decide)) s6 rfl) (VRL.cons (show VR _ (AV.strs 0 2) _ from ⟨rfl, rfl⟩) (VRL.cons (show VR _ (AV.int .i64 (2)) _ from rfl) VRL.nil)) (run_i2_s6 (tyOf w))
    exact law_of_run (σ := σ2 2 0 a0.size) (ς := fun _ => a0) (by kernel_rfl) smSfok (Nat.le_of_ble_eq_true size) (by rw [← gls_eq]; exact laid_all hL) (syC_ok (f := .excl [(3, 6516841), (6, 112568466435954), (8, 8319381538418553444), (3, 7630704), (4, 1918989413), (6, 109342978500980), (5, 482787554149)]) (by decide) (by decide) (Nat.le_trans w0 (by decide)) (List.forall_mem_cons.2 ⟨s0, List.forall_mem_cons.2 ⟨s1, List.forall_mem_cons.2 ⟨s2, List.forall_mem_cons.2 ⟨s3, List.forall_mem_cons.2 ⟨s4, List.forall_mem_cons.2 ⟨s5, List.forall_mem_cons.2 ⟨s6, fun x h => nomatch h⟩⟩⟩⟩⟩⟩⟩) rfl) (VRL.cons (show VR _ (AV.strs 0 2) _ from ⟨rfl, rfl⟩) (VRL.cons (show VR _ (AV.int .i64 (2)) _ from rfl) VRL.nil)) (run_i2_sx (tyOf w))
  by_cases c3 : a1 = 3
  · subst c3
    by_cases s0 : a0.data.toList.length = 3 ∧ num a0.data.toList 0 = 6516841
    · exact law_of_run (σ := σ2 3 0 a0.size) (ς := fun _ => a0) (by kernel_rfl) smSfok (Nat.le_of_ble_eq_true size) (by rw [← gls_eq]; exact laid_all hL) (syC_ok (f := .known 3 6516841) (by decide) (by decide) (Nat.le_trans w0 (by decide)) s0 rfl) (VRL.cons (show VR _ (AV.strs 0 2) _ from ⟨rfl, rfl⟩) (VRL.cons (show VR _ (AV.int .i64 (3)) _ from rfl) VRL.nil)) (run_i3_s0 (tyOf w))
    by_cases s1 : a0.data.toList.length = 6 ∧ num a0.data.toList 0 = 112568466435954
    · exact law_of_run (σ := σ2 3 0 a0.size) (ς := fun _ => a0) (by kernel_rfl) smSfok (Nat.le_of_ble_eq_true size) (by rw [← gls_eq]; exact laid_all hL) (syC_ok (f := .known 6 112568466435954) (by decide) (by decide) (Nat.le_trans w0 (by decide)) s1 rfl) (VRL.cons (show VR _ (AV.strs 0 2) _ from ⟨rfl, rfl⟩) (VRL.cons (show VR _ (AV.int .i64 (3)) _ from rfl) VRL.nil)) (run_i3_s1 (tyOf w))
    by_cases s2 : a0.data.toList.length = 8 ∧ num a0.data.toList 0 = 8319381538418553444
    · exact law_of_run (σ := σ2 3 0 a0.size) (ς := fun _ => a0) (by kernel_rfl) smSfok (Nat.le_of_ble_eq_true size) (by rw [← gls_eq]; exact laid_all hL) (syC_ok (f := .known 8 8319381538418553444) (by decide) (by decide) (Nat.le_trans w0 (by decide)) s2 rfl) (VRL.cons (show VR _ (AV.strs 0 2) _ from ⟨rfl, rfl⟩) (VRL.cons (show VR _ (AV.int .i64 (3)) _ from rfl) VRL.nil)) (run_i3_s2 (tyOf w))
    by_cases s3 : a0.data.toList.length = 3 ∧ num a0.data.toList 0 = 7630704
    · exact law_of_run (σ := σ2 3 0 a0.size) (ς := fun _ => a0) (by kernel_rfl) smSfok (Nat.le_of_ble_eq_true size) (by rw [← gls_eq]; exact laid_all hL) (syC_ok (f := .known 3 7630704) (by decide) (by decide) (Nat.le_trans w0 (by decide)) s3 rfl) (VRL.cons (show VR _ (AV.strs 0 2) _ from ⟨rfl, rfl⟩) (VRL.cons (show VR _ (AV.int .i64 (3)) _ from rfl) VRL.nil)) (run_i3_s3 (tyOf w))
    by_cases s4 : a0.data.toList.length = 4 ∧ num a0.data.toList 0 = 1918989413
    · exact law_of_run (σ := σ2 3 0 a0.size) (ς := fun _ => a0) (by kernel_rfl) smSfok (Nat.le_of_ble_eq_true size) (by rw [← gls_eq]; exact laid_all hL) (syC_ok (f := .known 4 1918989413) (by decide) (by decide) (Nat.le_trans w0 (by decide)) s4 rfl) (VRL.cons (show VR _ (AV.strs 0 2) _ from ⟨rfl, rfl⟩) (VRL.cons (show VR _ (AV.int .i64 (3)) _ from rfl) VRL.nil)) (run_i3_s4 (tyOf w))
    by_cases s5 : a0.data.toList.length = 6 ∧ num a0.data.toList 0 = 109342978500980
    · exact law_of_run (σ := σ2 3 0 a0.size) (ς := fun _ => a0) (by kernel_rfl) smSfok (Nat.le_of_ble_eq_true size) (by rw [← gls_eq]; exact laid_all hL) (syC_ok (f := .known 6 109342978500980) (by decide) (by decide) (Nat.le_trans w0 (by decide)) s5 rfl) (VRL.cons (show VR _ (AV.strs 0 2) _ from ⟨rfl, rfl⟩) (VRL.cons (show VR _ (AV.int .i64 (3)) _ from rfl) VRL.nil)) (run_i3_s5 (tyOf w))
    by_cases s6 : a0.data.toList.length = 5 ∧ num a0.data.toList 0 = 482787554149
    · exact law_of_run (σ := σ2 3 0 a0.size) (ς := fun _ => a0) (by kernel_rfl) smSfok (Nat.le_of_ble_eq_true size) (by rw [← gls_eq]; exact laid_all hL) (syC_ok (f := .known 5 482787554149) (by decide) (by decide) (Nat.le_trans w0 (by decide)) s6 rfl) (VRL.cons (show VR _ (AV.strs 0 2) _ from ⟨rfl, rfl⟩) (VRL.cons (show VR _ (AV.int .i64 (3)) _ from rfl) VRL.nil)) (run_i3_s6 (tyOf w))
    exact law_of_run (σ := σ2 3 0 a0.size) (ς := fun _ => a0) (by kernel_rfl) smSfok (Nat.le_of_ble_eq_true size) (by rw [← gls_eq]; exact laid_all hL) (syC_ok (f := .excl [(3, 6516841), (6, 112568466435954), (8, 8319381538418553444), (3, 7630704), (4, 1918989413), (6, 109342978500980), (5, 482787554149)]) (by decide) (by decide) (Nat.le_trans w0 (by decide)) (List.forall_mem_cons.2 ⟨s0, List.forall_mem_cons.2 ⟨s1, List.forall_mem_cons.2 ⟨s2, List.forall_mem_cons.2 ⟨s3, List.forall_mem_cons.2 ⟨s4, List.forall_mem_cons.2 ⟨s5, List.forall_mem_cons.2 ⟨s6, fun x h => nomatch h⟩⟩⟩⟩⟩⟩⟩) rfl) (VRL.cons (show VR _ (AV.strs 0 2) _ from ⟨rfl, rfl⟩) (VRL.cons (show VR _ (AV.int .i64 (3)) _ from rfl) VRL.nil)) (run_i3_sx (tyOf w))
  by_cases c4 : a1 = 4
  · subst c4
    by_cases s0 : a0.data.toList.length = 3 ∧ num a0.data.toList 0 = 6516841
    · exact law_of_run (σ := σ2 4 0 a0.size) (ς := fun _ => a0) (by kernel_rfl) smSfok (Nat.le_of_ble_eq_true size) (by rw [← gls_eq]; exact laid_all hL) (syC_ok (f := .known 3 6516841) (by decide) (by decide) (Nat.le_trans w0 (by decide)) s0 rfl) (VRL.cons (show VR _ (AV.strs 0 2) _ from ⟨rfl, rfl⟩) (VRL.cons (show VR _ (AV.int .i64 (4)) _ from rfl) VRL.nil)) (run_i4_s0 (tyOf w))
    by_cases s1 : a0.data.toList.length = 6 ∧ num a0.data.toList 0 = 112568466435954
    · exact law_of_run (σ := σ2 4 0 a0.size) (ς := fun _ => a0) (by kernel_rfl) smSfok (Nat.le_of_ble_eq_true size) (by rw [← gls_eq]; exact laid_all hL) (syC_ok (f := .known 6 112568466435954) (by decide) (by decide) (Nat.le_trans w0 (by decide)) s1 rfl) (VRL.cons (show VR _ (AV.strs 0 2) _ from ⟨rfl, rfl⟩) (VRL.cons (show VR _ (AV.int .i64 (4)) _ from rfl) VRL.nil)) (run_i4_s1 (tyOf w))
    by_cases s2 : a0.data.toList.length = 8 ∧ num a0.data.toList 0 = 8319381538418553444
    · exact law_of_run (σ := σ2 4 0 a0.size) (ς := fun _ => a0) (by kernel_rfl) smSfok (Nat.le_of_ble_eq_true size) (by rw [← gls_eq]; exact laid_all hL) (syC_ok (f := .known 8 8319381538418553444) (by decide) (by decide) (Nat.le_trans w0 (by decide)) s2 rfl) (VRL.cons (show VR _ (AV.strs 0 2) _ from ⟨rfl, rfl⟩) (VRL.cons (show VR _ (AV.int .i64 (4)) _ from rfl) VRL.nil)) (run_i4_s2 (tyOf w))
    by_cases s3 : a0.data.toList.length = 3 ∧ num a0.data.toList 0 = 7630704
    · exact law_of_run (σ := σ2 4 0 a0.size) (ς := fun _ => a0) (by kernel_rfl) smSfok (Nat.le_of_ble_eq_true size) (by rw [← gls_eq]; exact laid_all hL) (syC_ok (f := .known 3 7630704) (by decide) (by decide) (Nat.le_trans w0 (by decide)) s3 rfl) (VRL.cons (show VR _ (AV.strs 0 2) _ from ⟨rfl, rfl⟩) (VRL.cons (show VR _ (AV.int .i64 (4)) _ from rfl) VRL.nil)) (run_i4_s3 (tyOf w))
    by_cases s4 : a0.data.toList.length = 4 ∧ num a0.data.toList 0 = 1918989413
    · exact law_of_run (σ := σ2 4 0 a0.size) (ς := fun _ => a0) (by kernel_rfl) smSfok (Nat.le_of_ble_eq_true size) (by rw [← gls_eq]; exact laid_all hL) (syC_ok (f := .known 4 1918989413) (by decide) (by decide) (Nat.le_trans w0 (by decide)) s4 rfl) (VRL.cons (show VR _ (AV.strs 0 2) _ from ⟨rfl, rfl⟩) (VRL.cons (show VR _ (AV.int .i64 (4)) _ from rfl) VRL.nil)) (run_i4_s4 (tyOf w))
    by_cases s5 : a0.data.toList.length = 6 ∧ num a0.data.toList 0 = 109342978500980
    · exact law_of_run (σ := σ2 4 0 a0.size) (ς := fun _ => a0) (by kernel_rfl) smSfok (Nat.le_of_ble_eq_true size) (by rw [← gls_eq]; exact laid_all hL) (syC_ok (f := .known 6 109342978500980) (by decide) (by decide) (Nat.le_trans w0 (by decide)) s5 rfl) (VRL.cons (show VR _ (AV.strs 0 2) _ from ⟨rfl, rfl⟩) (VRL.cons (show VR _ (AV.int .i64 (4)) _ from rfl) VRL.nil)) (run_i4_s5 (tyOf w))
    by_cases s6 : a0.data.toList.length = 5 ∧ num a0.data.toList 0 = 482787554149
    · exact law_of_run (σ := σ2 4 0 a0.size) (ς := fun _ => a0) (by kernel_rfl) smSfok (Nat.le_of_ble_eq_true size) (by rw [← gls_eq]; exact laid_all hL) (syC_ok (f := .known 5 482787554149) (by decide) (by decide) (Nat.le_trans w0 (by decide)) s6 rfl) (VRL.cons (show VR _ (AV.strs 0 2) _ from ⟨rfl, rfl⟩) (VRL.cons (show VR _ (AV.int .i64 (4)) _ from rfl) VRL.nil)) (run_i4_s6 (tyOf w))
    exact law_of_run (σ := σ2 4 0 a0.size) (ς := fun _ => a0) (by kernel_rfl) smSfok (Nat.le_of_ble_eq_true size) (by rw [← gls_eq]; exact laid_all hL) (syC_ok (f := .excl [(3, 6516841), (6, 112568466435954), (8, 8319381538418553444), (3, 7630704), (4, 1918989413), (6, 109342978500980), (5, 482787554149)]) (by decide) (by decide) (Nat.le_trans w0 (by decide)) (List.forall_mem_cons.2 ⟨s0, List.forall_mem_cons.2 ⟨s1, List.forall_mem_cons.2 ⟨s2, List.forall_mem_cons.2 ⟨s3, List.forall_mem_cons.2 ⟨s4, List.forall_mem_cons.2 ⟨s5, List.forall_mem_cons.2 ⟨s6, fun x h => nomatch h⟩⟩⟩⟩⟩⟩⟩) rfl) (VRL.cons (show VR _ (AV.strs 0 2) _ from ⟨rfl, rfl⟩) (VRL.cons (show VR _ (AV.int .i64 (4)) _ from rfl) VRL.nil)) (run_i4_sx (tyOf w))
  by_cases c5 : a1 = 5
  · subst c5
    by_cases s0 : a0.data.toList.length = 3 ∧ num a0.data.toList 0 = 6516841
    · exact law_of_run (σ := σ2 5 0 a0.size) (ς := fun _ => a0) (by kernel_rfl) smSfok (Nat.le_of_ble_eq_true size) (by rw [← gls_eq]; exact laid_all hL) (syC_ok (f := .known 3 6516841) (by decide) (by decide) (Nat.le_trans w0 (by decide)) s0 rfl) (VRL.cons (show VR _ (AV.strs 0 2) _ from ⟨rfl, rfl⟩) (VRL.cons (show VR _ (AV.int .i64 (5)) _ from rfl) VRL.nil)) (run_i5_s0 (tyOf w))
    by_cases s1 : a0.data.toList.length = 6 ∧ num a0.data.toList 0 = 112568466435954
    · exact law_of_run (σ := σ2 5 0 a0.size) (ς := fun _ => a0) (by kernel_rfl) smSfok (Nat.le_of_ble_eq_true size) (by rw [← gls_eq]; exact laid_all hL) (syC_ok (f := .known 6 112568466435954) (by decide) (by decide) (Nat.le_trans w0 (by decide)) s1 rfl) (VRL.cons (show VR _ (AV.strs 0 2) _ from ⟨rfl, rfl⟩) (VRL.cons (show VR _ (AV.int .i64 (5)) _ from rfl) VRL.nil)) (run_i5_s1 (tyOf w))
    by_cases s2 : a0.data.toList.length = 8 ∧ num a0.data.toList 0 = 8319381538418553444
    · exact law_of_run (σ := σ2 5 0 a0.size) (ς := fun _ => a0) (by kernel_rfl) smSfok (Nat.le_of_ble_eq_true size) (by rw [← gls_eq]; exact laid_all hL) (syC_ok (f := .known 8 8319381538418553444) (by decide) (by decide) (Nat.le_trans w0 (by decide)) s2 rfl) (VRL.cons (show VR _ (AV.strs 0 2) _ from ⟨rfl, rfl⟩) (VRL.cons (show VR _ (AV.int .i64 (5)) _ from rfl) VRL.nil)) (run_i5_s2 (tyOf w))
    by_cases s3 : a0.data.toList.length = 3 ∧ num a0.data.toList 0 = 7630704
    · exact law_of_run (σ := σ2 5 0 a0.size) (ς := fun _ => a0) (by kernel_rfl) smSfok (Nat.le_of_ble_eq_true size) (by rw [← gls_eq]; exact laid_all hL) (syC_ok (f := .known 3 7630704) (by decide) (by decide) (Nat.le_trans w0 (by decide)) s3 rfl) (VRL.cons (show VR _ (AV.strs 0 2) _ from ⟨rfl, rfl⟩) (VRL.cons (show VR _ (AV.int .i64 (5)) _ from rfl) VRL.nil)) (run_i5_s3 (tyOf w))
    by_cases s4 : a0.data.toList.length = 4 ∧ num a0.data.toList 0 = 1918989413
    · exact law_of_run (σ := σ2 5 0 a0.size) (ς := fun _ => a0) (by kernel_rfl) smSfok (Nat.le_of_ble_eq_true size) (by rw [← gls_eq]; exact laid_all hL) (syC_ok (f := .known 4 1918989413) (by decide) (by decide) (Nat.le_trans w0 (by decide)) s4 rfl) (VRL.cons (show VR _ (AV.strs 0 2) _ from ⟨rfl, rfl⟩) (VRL.cons (show VR _ (AV.int .i64 (5)) _ from rfl) VRL.nil)) (run_i5_s4 (tyOf w))
    by_cases s5 : a0.data.toList.length = 6 ∧ num a0.data.toList 0 = 109342978500980
    · exact law_of_run (σ := σ2 5 0 a0.size) (ς := fun _ => a0) (by kernel_rfl) smSfok (Nat.le_of_ble_eq_true size) (by rw [← gls_eq]; exact laid_all hL) (syC_ok (f := .known 6 109342978500980) (by decide) (by decide) (Nat.le_trans w0 (by decide)) s5 rfl) (VRL.cons (show VR _ (AV.strs 0 2) _ from ⟨rfl, rfl⟩) (VRL.cons (show VR _ (AV.int .i64 (5)) _ from rfl) VRL.nil)) (run_i5_s5 (tyOf w))
    by_cases s6 : a0.data.toList.length = 5 ∧ num a0.data.toList 0 = 482787554149
    · exact law_of_run (σ := σ2 5 0 a0.size) (ς := fun _ => a0) (by kernel_rfl) smSfok (Nat.le_of_ble_eq_true size) (by rw [← gls_eq]; exact laid_all hL) (syC_ok (f := .known 5 482787554149) (by decide) (by decide) (Nat.le_trans w0 (by decide)) s6 rfl) (VRL.cons (show VR _ (AV.strs 0 2) _ from ⟨rfl, rfl⟩) (VRL.cons (show VR _ (AV.int .i64 (5)) _ from rfl) VRL.nil)) (run_i5_s6 (tyOf w))
    exact law_of_run (σ := σ2 5 0 a0.size) (ς := fun _ => a0) (by kernel_rfl) smSfok (Nat.le_of_ble_eq_true size) (by rw [← gls_eq]; exact laid_all hL) (syC_ok (f := .excl [(3, 6516841), (6, 112568466435954), (8, 8319381538418553444), (3, 7630704), (4, 1918989413), (6, 109342978500980), (5, 482787554149)]) (by decide) (by decide) (Nat.le_trans w0 (by decide)) (List.forall_mem_cons.2 ⟨s0, List.forall_mem_cons.2 ⟨s1, List.forall_mem_cons.2 ⟨s2, List.forall_mem_cons.2 ⟨s3, List.forall_mem_cons.2 ⟨s4, List.forall_mem_cons.2 ⟨s5, List.forall_mem_cons.2 ⟨s6, fun x h => nomatch h⟩⟩⟩⟩⟩⟩⟩) rfl) (VRL.cons (show VR _ (AV.strs 0 2) _ from ⟨rfl, rfl⟩) (VRL.cons (show VR _ (AV.int .i64 (5)) _ from rfl) VRL.nil)) (run_i5_sx (tyOf w))
  by_cases cl : a1 < 0
  · have ih : (-9223372036854775808 : Int) ≤ a1 ∧ a1 ≤ -1 := by omega
    by_cases s0 : a0.data.toList.length = 3 ∧ num a0.data.toList 0 = 6516841
    · exact law_of_run (σ := σ2 a1 0 a0.size) (ς := fun _ => a0) (by kernel_rfl) smSfok (Nat.le_of_ble_eq_true size) (by rw [← gls_eq]; exact laid_all hL) (syC_ok (f := .known 3 6516841) ih (by decide) (Nat.le_trans w0 (by decide)) s0 rfl) (VRL.cons (show VR _ (AV.strs 0 2) _ from ⟨rfl, rfl⟩) (VRL.cons (show VR _ (AV.sym 0) _ from ⟨a1, rfl, rfl⟩) VRL.nil)) (run_il_s0 (tyOf w))
    by_cases s1 : a0.data.toList.length = 6 ∧ num a0.data.toList 0 = 112568466435954
    · exact law_of_run (σ := σ2 a1 0 a0.size) (ς := fun _ => a0) (by kernel_rfl) smSfok (Nat.le_of_ble_eq_true size) (by rw [← gls_eq]; exact laid_all hL) (syC_ok (f := .known 6 112568466435954) ih (by decide) (Nat.le_trans w0 (by decide)) s1 rfl) (VRL.cons (show VR _ (AV.strs 0 2) _ from ⟨rfl, rfl⟩) (VRL.cons (show VR _ (AV.sym 0) _ from ⟨a1, rfl, rfl⟩) VRL.nil)) (run_il_s1 (tyOf w))
    by_cases s2 : a0.data.toList.length = 8 ∧ num a0.data.toList 0 = 8319381538418553444
    · exact law_of_run (σ := σ2 a1 0 a0.size) (ς := fun _ => a0) (by kernel_rfl) smSfok (Nat.le_of_ble_eq_true size) (by rw [← gls_eq]; exact laid_all hL) (syC_ok (f := .known 8 8319381538418553444) ih (by decide) (Nat.le_trans w0 (by decide)) s2 rfl) (VRL.cons (show VR _ (AV.strs 0 2) _ from ⟨rfl, rfl⟩) (VRL.cons (show VR _ (AV.sym 0) _ from ⟨a1, rfl, rfl⟩) VRL.nil)) (run_il_s2 (tyOf w))
    by_cases s3 : a0.data.toList.length = 3 ∧ num a0.data.toList 0 = 7630704
    · exact law_of_run (σ := σ2 a1 0 a0.size) (ς := fun _ => a0) (by kernel_rfl) smSfok (Nat.le_of_ble_eq_true size) (by rw [← gls_eq]; exact laid_all hL) (syC_ok (f := .known 3 7630704) ih (by decide) (Nat.le_trans w0 (by decide)) s3 rfl) (VRL.cons (show VR _ (AV.strs 0 2) _ from ⟨rfl, rfl⟩) (VRL.cons (show VR _ (AV.sym 0) _ from ⟨a1, rfl, rfl⟩) VRL.nil)) (run_il_s3 (tyOf w))
    by_cases s4 : a0.data.toList.length = 4 ∧ num a0.data.toList 0 = 1918989413
    · exact law_of_run (σ := σ2 a1 0 a0.size) (ς := fun _ => a0) (by kernel_rfl) smSfok (Nat.le_of_ble_eq_true size) (by rw [← gls_eq]; exact laid_all hL) (syC_ok (f := .known 4 1918989413) ih (by decide) (Nat.le_trans w0 (by decide)) s4 rfl) (VRL.cons (show VR _ (AV.strs 0 2) _ from ⟨rfl, rfl⟩) (VRL.cons (show VR _ (AV.sym 0) _ from ⟨a1, rfl, rfl⟩) VRL.nil)) (run_il_s4 (tyOf w))
    by_cases s5 : a0.data.toList.length = 6 ∧ num a0.data.toList 0 = 109342978500980
    · exact law_of_run (σ := σ2 a1 0 a0.size) (ς := fun _ => a0) (by kernel_rfl) smSfok (Nat.le_of_ble_eq_true size) (by rw [← gls_eq]; exact laid_all hL) (syC_ok (f := .known 6 109342978500980) ih (by decide) (Nat.le_trans w0 (by decide)) s5 rfl) (VRL.cons (show VR _ (AV.strs 0 2) _ from ⟨rfl, rfl⟩) (VRL.cons (show VR _ (AV.sym 0) _ from ⟨a1, rfl, rfl⟩) VRL.nil)) (run_il_s5 (tyOf w))
    by_cases s6 : a0.data.toList.length = 5 ∧ num a0.data.toList 0 = 482787554149
    · exact law_of_run (σ := σ2 a1 0 a0.size) (ς := fun _ => a0) (by kernel_rfl) smSfok (Nat.le_of_ble_eq_true size) (by rw [← gls_eq]; exact laid_all hL) (syC_ok (f := .known 5 482787554149) ih (by decide) (Nat.le_trans w0 (by decide)) s6 rfl) (VRL.cons (show VR _ (AV.strs 0 2) _ from ⟨rfl, rfl⟩) (VRL.cons (show VR _ (AV.sym 0) _ from ⟨a1, rfl, rfl⟩) VRL.nil)) (run_il_s6 (tyOf w))
    exact law_of_run (σ := σ2 a1 0 a0.size) (ς := fun _ => a0) (by kernel_rfl) smSfok (Nat.le_of_ble_eq_true size) (by rw [← gls_eq]; exact laid_all hL) (syC_ok (f := .excl [(3, 6516841), (6, 112568466435954), (8, 8319381538418553444), (3, 7630704), (4, 1918989413), (6, 109342978500980), (5, 482787554149)]) ih (by decide) (Nat.le_trans w0 (by decide)) (List.forall_mem_cons.2 ⟨s0, List.forall_mem_cons.2 ⟨s1, List.forall_mem_cons.2 ⟨s2, List.forall_mem_cons.2 ⟨s3, List.forall_mem_cons.2 ⟨s4, List.forall_mem_cons.2 ⟨s5, List.forall_mem_cons.2 ⟨s6, fun x h => nomatch h⟩⟩⟩⟩⟩⟩⟩) rfl) (VRL.cons (show VR _ (AV.strs 0 2) _ from ⟨rfl, rfl⟩) (VRL.cons (show VR _ (AV.sym 0) _ from ⟨a1, rfl, rfl⟩) VRL.nil)) (run_il_sx (tyOf w))
  have ih : (6 : Int) ≤ a1 ∧ a1 ≤ 9223372036854775807 := by omega
  by_cases s0 : a0.data.toList.length = 3 ∧ num a0.data.toList 0 = 6516841
  · exact law_of_run (σ := σ2 a1 0 a0.size) (ς := fun _ => a0) (by kernel_rfl) smSfok (Nat.le_of_ble_eq_true size) (by rw [← gls_eq]; exact laid_all hL) (syC_ok (f := .known 3 6516841) ih (by decide) (Nat.le_trans w0 (by decide)) s0 rfl) (VRL.cons (show VR _ (AV.strs 0 2) _ from ⟨rfl, rfl⟩) (VRL.cons (show VR _ (AV.sym 0) _ from ⟨a1, rfl, rfl⟩) VRL.nil)) (run_ih_s0 (tyOf w))
  by_cases s1 : a0.data.toList.length = 6 ∧ num a0.data.toList 0 = 112568466435954
  · exact law_of_run (σ := σ2 a1 0 a0.size) (ς := fun _ => a0) (by kernel_rfl) smSfok (Nat.le_of_ble_eq_true size) (by rw [← gls_eq]; exact laid_all hL) (syC_ok (f := .known 6 112568466435954) ih (by decide) (Nat.le_trans w0 (by decide)) s1 rfl) (VRL.cons (show VR _ (AV.strs 0 2) _ from ⟨rfl, rfl⟩) (VRL.cons (show VR _ (AV.sym 0) _ from ⟨a1, rfl, rfl⟩) VRL.nil)) (run_ih_s1 (tyOf w))
  by_cases s2 : a0.data.toList.length = 8 ∧ num a0.data.toList 0 = 8319381538418553444
  · exact law_of_run (σ := σ2 a1 0 a0.size) (ς := fun _ => a0) (by kernel_rfl) smSfok (Nat.le_of_ble_eq_true size) (by rw [← gls_eq]; exact laid_all hL) (syC_ok (f := .known 8 8319381538418553444) ih (by decide) (Nat.le_trans w0 (by decide)) s2 rfl) (VRL.cons (show VR _ (AV.strs 0 2) _ from ⟨rfl, rfl⟩) (VRL.cons (show VR _ (AV.sym 0) _ from ⟨a1, rfl, rfl⟩) VRL.nil)) (run_ih_s2 (tyOf w))
  by_cases s3 : a0.data.toList.length = 3 ∧ num a0.data.toList 0 = 7630704
  · exact law_of_run (σ := σ2 a1 0 a0.size) (ς := fun _ => a0) (by kernel_rfl) smSfok (Nat.le_of_ble_eq_true size) (by rw [← gls_eq]; exact laid_all hL) (syC_ok (f := .known 3 7630704) ih (by decide) (Nat.le_trans w0 (by decide)) s3 rfl) (VRL.cons (show VR _ (AV.strs 0 2) _ from ⟨rfl, rfl⟩) (VRL.cons (show VR _ (AV.sym 0) _ from ⟨a1, rfl, rfl⟩) VRL.nil)) (run_ih_s3 (tyOf w))
  by_cases s4 : a0.data.toList.length = 4 ∧ num a0.data.toList 0 = 1918989413
  · exact law_of_run (σ := σ2 a1 0 a0.size) (ς := fun _ => a0) (by kernel_rfl) smSfok (Nat.le_of_ble_eq_true size) (by rw [← gls_eq]; exact laid_all hL) (syC_ok (f := .known 4 1918989413) ih (by decide) (Nat.le_trans w0 (by decide)) s4 rfl) (VRL.cons (show VR _ (AV.strs 0 2) _ from ⟨rfl, rfl⟩) (VRL.cons (show VR _ (AV.sym 0) _ from ⟨a1, rfl, rfl⟩) VRL.nil)) (run_ih_s4 (tyOf w))
  by_cases s5 : a0.data.toList.length = 6 ∧ num a0.data.toList 0 = 109342978500980
  · exact law_of_run (σ := σ2 a1 0 a0.size) (ς := fun _ => a0) (by kernel_rfl) smSfok (Nat.le_of_ble_eq_true size) (by rw [← gls_eq]; exact laid_all hL) (syC_ok (f := .known 6 109342978500980) ih (by decide) (Nat.le_trans w0 (by decide)) s5 rfl) (VRL.cons (show VR _ (AV.strs 0 2) _ from ⟨rfl, rfl⟩) (VRL.cons (show VR _ (AV.sym 0) _ from ⟨a1, rfl, rfl⟩) VRL.nil)) (run_ih_s5 (tyOf w))
  by_cases s6 : a0.data.toList.length = 5 ∧ num a0.data.toList 0 = 482787554149
  · exact law_of_run (σ := σ2 a1 0 a0.size) (ς := fun _ => a0) (by kernel_rfl) smSfok (Nat.le_of_ble_eq_true size) (by rw [← gls_eq]; exact laid_all hL) (syC_ok (f := .known 5 482787554149) ih (by decide) (Nat.le_trans w0 (by decide)) s6 rfl) (VRL.cons (show VR _ (AV.strs 0 2) _ from ⟨rfl, rfl⟩) (VRL.cons (show VR _ (AV.sym 0) _ from ⟨a1, rfl, rfl⟩) VRL.nil)) (run_ih_s6 (tyOf w))
  exact law_of_run (σ := σ2 a1 0 a0.size) (ς := fun _ => a0) (by kernel_rfl) smSfok (Nat.le_of_ble_eq_true size) (by rw [← gls_eq]; exact laid_all hL) (syC_ok (f := .excl [(3, 6516841), (6, 112568466435954), (8, 8319381538418553444), (3, 7630704), (4, 1918989413), (6, 109342978500980), (5, 482787554149)]) ih (by decide) (Nat.le_trans w0 (by decide)) (List.forall_mem_cons.2 ⟨s0, List.forall_mem_cons.2 ⟨s1, List.forall_mem_cons.2 ⟨s2, List.forall_mem_cons.2 ⟨s3, List.forall_mem_cons.2 ⟨s4, List.forall_mem_cons.2 ⟨s5, List.forall_mem_cons.2 ⟨s6, fun x h => nomatch h⟩⟩⟩⟩⟩⟩⟩) rfl) (VRL.cons (show VR _ (AV.strs 0 2) _ from ⟨rfl, rfl⟩) (VRL.cons (show VR _ (AV.sym 0) _ from ⟨a1, rfl, rfl⟩) VRL.nil)) (run_ih_sx (tyOf w))
set_option maxRecDepth 100000 in
theorem lifted (os : Os) (started : os.Started) (H : Type) (enc : TypeId × Value → H) :
    ReturnsInHanded {} Tryd.checked os 3 .any (fun w args => (Rows.y4FactsSpec.pre enc Tryd.prog Tryd.f3 [] false w args ∧ laidMetH Tryd.prog Rows.y4FactsRow.laid w) ∧ sizedMet enc Tryd.prog Tryd.f3 (OpenSpec.ofChange Rows.y4FactsSpec) false w args)
      (Rows.y4FactsSpec.post enc Tryd.prog Tryd.f3 false true false false) := by
  refine returnsInHanded_of_change_and (C := Tryd.checked) (X := fun w _ => laidMetH Tryd.prog Rows.y4FactsRow.laid w) (fun _ _ _ hh h => h.of_heap hh) own started (by kernel_rfl) Tryd.func3
    (ChangeSpec.witness_at (enc := enc) (C := Tryd.checked) (X := fun w _ => laidMetH Tryd.prog Rows.y4FactsRow.laid w) false (World.laidAll Tryd.prog os Rows.y4FactsRow.laid) #[.string ByteArray.empty, .int .i64 0] 8 (World.laidAll_os _ _ _) (by kernel_rfl) (by kernel_rfl) (by kernel_rfl) (by kernel_rfl) (by kernel_rfl)
      (by rw [MakeChecks.laidMetH_plain _ _ _ (by kernel_rfl)]; exact laidMet_laidAll _ (by kernel_rfl) (by kernel_rfl))) ?_
  intro W base args ds gs before hval0 hW _ _ hL _
  have hval : ∀ (j : Nat) t v, Tryd.f3.params[j]? = some t → args[j]? = some v → Value.okWide Tryd.prog W .any base t v := hval0
  have hW' := hW
  obtain ⟨p, q, hA0, hV, rfl, hfz, hnd⟩ := hW
  have hA : DataW.TrodAll enc Tryd.prog W 0 (fun _ => true) true Tryd.f3.params.toList args.toList ds p := hA0
  rw [Tryd.params3] at hA hval
  obtain ⟨v0, vs0, d0, ds0, p0, q0, hargs, rfl, rfl, h0, r0⟩ := trodAll_cons hA
  obtain ⟨v1, vs1, d1, ds1, p1, q1, rfl, rfl, rfl, h1, r1⟩ := trodAll_cons r0
  obtain ⟨rfl, rfl, rfl⟩ := trodAll_nil r1
  obtain rfl : args = #[v0, v1] := by cases args; simp_all
  obtain ⟨rfl, rfl⟩ := trodVars_none hV
  obtain ⟨a0, rfl, rfl, rfl, w0⟩ := ChangeMaps.open_string Tryd.underlying9 (hval 0 9 v0 rfl rfl) h0
  obtain ⟨a1, rfl, rfl, rfl, w1⟩ := open_int Tryd.underlying3 (hval 1 3 v1 rfl rfl) h1
  clear hA0 hval0
  simp only [List.append_nil] at hW'
  refine (walk a0 w0 a1 w1 W hL).mono fun e W' ⟨he, bel⟩ => ?_
  subst he
  exact ⟨_, rfl, _, _, _, [], _, [], hW', trodAll_mk1 (shut_bool Tryd.underlying4 _), (trodAll_cons_mk (ChangeMaps.shut_string Tryd.underlying9 w0) (trodAll_cons_mk (shut_int Tryd.underlying3 w1) trodAll_mk0)), rfl, bel.frame _, fun h => by cases h⟩
theorem over : Rows.y4FactsRow.holds Tryd.pinned (OpenSpec.ofChange Rows.y4FactsSpec) :=
  OpenClaim.holds_of_wide 3 Tryd.f3 rfl rfl rfl rfl rfl rfl rfl ⟨rfl, rfl, rfl, rfl, rfl⟩ rfl rfl rfl rfl rfl (by kernel_rfl) Tryd.func3 (by kernel_rfl)
    (of_decide_eq_true (by kernel_rfl)) (by unfold Func.isWrapper; first | (rw [if_pos (by decide +kernel)]; kernel_rfl) | (rw [if_neg (by decide +kernel)]; exact ⟨rfl, rfl⟩))
    (fun os started H enc _ => lifted os started H enc)
end Go.Proofs.YtmlkgejkjhlbfaaDoor.y4Facts
namespace Go.Proofs.YtmlkgejkjhlbfaaDoor
open Go
theorem y4Facts_card : Rows.Y4FactsCardSaid :=
  Claim7.holds_tied_plain_at .later [] [.data, .data, .data, .data, .data, .data, .data, .data, .data, .data, .data, .data] true (true, "aab9991ad7d7dcc8eca72fb037dd71bb39e01984d0ba781c653536bef639e98a") false y4Facts.over (fun _ h => by cases h) (by kernel_rfl) (fun _ h => by cases h) y4Facts_row_tie rfl ⟨rfl, rfl⟩ (by kernel_rfl) rfl
    (fun f fn hf hfn => by
      obtain rfl : f = 3 := Option.some.inj ((show Tryd.prog.funcNamed "tithe/tithelaw20.Y4Facts" = some 3 by kernel_rfl).symm.trans hf) |>.symm
      obtain rfl : fn = Tryd.f3 := (Option.some.inj (Tryd.func3.symm.trans hfn)).symm
      exact ⟨by kernel_rfl, fun j t ht => by
        rw [Tryd.params3] at ht
        have hm : t ∈ [9, 3] := by simpa using Array.mem_of_getElem? ht
        have hall : ([9, 3].all fun u => !Tryd.prog.wantsStandIn u) = true := by kernel_rfl
        exact (show Tryd.prog.wantsStandIn t = false by simpa using List.all_eq_true.1 hall t hm)⟩)
    (by kernel_rfl)
end Go.Proofs.YtmlkgejkjhlbfaaDoor
