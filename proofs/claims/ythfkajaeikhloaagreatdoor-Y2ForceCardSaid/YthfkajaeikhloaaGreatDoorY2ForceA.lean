/- The walk: the function returns true and changes nothing that was there. -/
import Derived.Test.YthfkajaeikhloaaGreatDoorY2ForceR0
import Derived.Test.YthfkajaeikhloaaGreatDoorY2ForceR1
import Derived.Test.YthfkajaeikhloaaGreatDoorY2ForceR2
import Derived.Test.YthfkajaeikhloaaGreatDoorY2ForceR3
import Derived.Test.YthfkajaeikhloaaGreatDoorY2ForceR4
import Derived.Test.YthfkajaeikhloaaGreatDoorY2ForceR5
import Derived.Test.YthfkajaeikhloaaGreatDoorY2ForceR6
import Derived.Test.YthfkajaeikhloaaGreatDoorY2ForceR7
import Derived.Test.YthfkajaeikhloaaGreatDoorY2ForceR8
import Derived.Test.YthfkajaeikhloaaGreatDoorY2ForceR9
import Derived.Test.YthfkajaeikhloaaGreatDoorY2ForceR10
import Derived.Test.YthfkajaeikhloaaGreatDoorY2ForceR11
import Derived.Test.YthfkajaeikhloaaGreatDoorY2ForceR12
import Derived.Test.YthfkajaeikhloaaGreatDoorY2ForceR13
import Derived.Test.YthfkajaeikhloaaGreatDoorY2ForceR14
import Derived.Test.YthfkajaeikhloaaGreatDoorY2ForceR15
import Derived.Test.YthfkajaeikhloaaGreatDoorY2ForceR16
import Derived.WalkKit
import Derived.ProofKit
import Derived.OpenShut
import Derived.LaidMore
import Derived.Lay
import Derived.LaidOnce
import Derived.SevenTiedAt
import Derived.ChangeSame
import Derived.Below
import Derived.Handed
import Derived.ChangeMaps5
namespace Go.Proofs.YthfkajaeikhloaaGreatDoor.y2Force
open Go Go.Proofs.YthfkajaeikhloaaGreatDoor.Xq Go.ChangeShapes Go.WideShapes Go.ChangeAt Go.RowKit
set_option linter.unusedVariables false
theorem own : ownKnob Tryz.prog.godebug = none := by kernel_rfl
theorem laidOut : laidOutB Tryz.prog = true := by kernel_rfl
theorem size : Nat.ble Tryz.prog.globals.size 1000 = true := by kernel_rfl
theorem walk (a0 : ByteArray) (w0 : a0.size ≤ maxLen) (a1 : Int) (w1 : (Lit.int .i64 a1).wf = true) (a2 : Int) (w2 : (Lit.int .i64 a2).wf = true) (w : World) (hL : laidMetH Tryz.prog Rows.y2ForceRow.laid w) :
    Calls Tryz.prog 4 #[.string a0, .int .i64 a1, .int .i64 a2] w fun e w' => e = .returned (.bool true) ∧ Below w.heap.size w w' := by
  rw [MakeChecks.laidMetH_plain _ _ _ (by kernel_rfl)] at hL
  by_cases s0 : a0.data.toList.length = 17 ∧ num a0.data.toList 0 = 38173369057568756034548228006048761867365
  · exact law_of_run (σ := σ2 a1 a2 a0.size) (ς := fun _ => a0) (by kernel_rfl) smSbok (Nat.le_of_ble_eq_true size) (by rw [← gls_eq]; exact laid_all size hL) (syC_ok (f := .known 17 38173369057568756034548228006048761867365) (range64 w1) (range64 w2) (Nat.le_trans w0 (by decide)) s0 rfl) (VRL.cons (show VR _ (AV.str 17 38173369057568756034548228006048761867365) _ from ⟨a0, rfl, s0.1, s0.2⟩) (VRL.cons (show VR _ (AV.sym 0) _ from ⟨a1, rfl, rfl⟩) (VRL.cons (show VR _ (AV.sym 1) _ from ⟨a2, rfl, rfl⟩) VRL.nil))) (run_s0 (tyOf w)) (by kernel_rfl)
  by_cases s1 : a0.data.toList.length = 16 ∧ num a0.data.toList 0 = 149114722881127953259954015610073607796
  · exact law_of_run (σ := σ2 a1 a2 a0.size) (ς := fun _ => a0) (by kernel_rfl) smSbok (Nat.le_of_ble_eq_true size) (by rw [← gls_eq]; exact laid_all size hL) (syC_ok (f := .known 16 149114722881127953259954015610073607796) (range64 w1) (range64 w2) (Nat.le_trans w0 (by decide)) s1 rfl) (VRL.cons (show VR _ (AV.str 16 149114722881127953259954015610073607796) _ from ⟨a0, rfl, s1.1, s1.2⟩) (VRL.cons (show VR _ (AV.sym 0) _ from ⟨a1, rfl, rfl⟩) (VRL.cons (show VR _ (AV.sym 1) _ from ⟨a2, rfl, rfl⟩) VRL.nil))) (run_s1 (tyOf w)) (by kernel_rfl)
  by_cases s2 : a0.data.toList.length = 15 ∧ num a0.data.toList 0 = 582478117989624392746924662566906981
  · exact law_of_run (σ := σ2 a1 a2 a0.size) (ς := fun _ => a0) (by kernel_rfl) smSbok (Nat.le_of_ble_eq_true size) (by rw [← gls_eq]; exact laid_all size hL) (syC_ok (f := .known 15 582478117989624392746924662566906981) (range64 w1) (range64 w2) (Nat.le_trans w0 (by decide)) s2 rfl) (VRL.cons (show VR _ (AV.str 15 582478117989624392746924662566906981) _ from ⟨a0, rfl, s2.1, s2.2⟩) (VRL.cons (show VR _ (AV.sym 0) _ from ⟨a1, rfl, rfl⟩) (VRL.cons (show VR _ (AV.sym 1) _ from ⟨a2, rfl, rfl⟩) VRL.nil))) (run_s2 (tyOf w)) (by kernel_rfl)
  by_cases s3 : a0.data.toList.length = 14 ∧ num a0.data.toList 0 = 2275305148396970284167635908783732
  · exact law_of_run (σ := σ2 a1 a2 a0.size) (ς := fun _ => a0) (by kernel_rfl) smSbok (Nat.le_of_ble_eq_true size) (by rw [← gls_eq]; exact laid_all size hL) (syC_ok (f := .known 14 2275305148396970284167635908783732) (range64 w1) (range64 w2) (Nat.le_trans w0 (by decide)) s3 rfl) (VRL.cons (show VR _ (AV.str 14 2275305148396970284167635908783732) _ from ⟨a0, rfl, s3.1, s3.2⟩) (VRL.cons (show VR _ (AV.sym 0) _ from ⟨a1, rfl, rfl⟩) (VRL.cons (show VR _ (AV.sym 1) _ from ⟨a2, rfl, rfl⟩) VRL.nil))) (run_s3 (tyOf w)) (by kernel_rfl)
  by_cases s4 : a0.data.toList.length = 7 ∧ num a0.data.toList 0 = 31576257714025317
  · exact law_of_run (σ := σ2 a1 a2 a0.size) (ς := fun _ => a0) (by kernel_rfl) smSbok (Nat.le_of_ble_eq_true size) (by rw [← gls_eq]; exact laid_all size hL) (syC_ok (f := .known 7 31576257714025317) (range64 w1) (range64 w2) (Nat.le_trans w0 (by decide)) s4 rfl) (VRL.cons (show VR _ (AV.str 7 31576257714025317) _ from ⟨a0, rfl, s4.1, s4.2⟩) (VRL.cons (show VR _ (AV.sym 0) _ from ⟨a1, rfl, rfl⟩) (VRL.cons (show VR _ (AV.sym 1) _ from ⟨a2, rfl, rfl⟩) VRL.nil))) (run_s4 (tyOf w)) (by kernel_rfl)
  by_cases s5 : a0.data.toList.length = 8 ∧ num a0.data.toList 0 = 8299698059951434853
  · exact law_of_run (σ := σ2 a1 a2 a0.size) (ς := fun _ => a0) (by kernel_rfl) smSbok (Nat.le_of_ble_eq_true size) (by rw [← gls_eq]; exact laid_all size hL) (syC_ok (f := .known 8 8299698059951434853) (range64 w1) (range64 w2) (Nat.le_trans w0 (by decide)) s5 rfl) (VRL.cons (show VR _ (AV.str 8 8299698059951434853) _ from ⟨a0, rfl, s5.1, s5.2⟩) (VRL.cons (show VR _ (AV.sym 0) _ from ⟨a1, rfl, rfl⟩) (VRL.cons (show VR _ (AV.sym 1) _ from ⟨a2, rfl, rfl⟩) VRL.nil))) (run_s5 (tyOf w)) (by kernel_rfl)
  by_cases s6 : a0.data.toList.length = 7 ∧ num a0.data.toList 0 = 32420656992317044
  · exact law_of_run (σ := σ2 a1 a2 a0.size) (ς := fun _ => a0) (by kernel_rfl) smSbok (Nat.le_of_ble_eq_true size) (by rw [← gls_eq]; exact laid_all size hL) (syC_ok (f := .known 7 32420656992317044) (range64 w1) (range64 w2) (Nat.le_trans w0 (by decide)) s6 rfl) (VRL.cons (show VR _ (AV.str 7 32420656992317044) _ from ⟨a0, rfl, s6.1, s6.2⟩) (VRL.cons (show VR _ (AV.sym 0) _ from ⟨a1, rfl, rfl⟩) (VRL.cons (show VR _ (AV.sym 1) _ from ⟨a2, rfl, rfl⟩) VRL.nil))) (run_s6 (tyOf w)) (by kernel_rfl)
  by_cases s7 : a0.data.toList.length = 11 ∧ num a0.data.toList 0 = 131061873431810141261360485
  · exact law_of_run (σ := σ2 a1 a2 a0.size) (ς := fun _ => a0) (by kernel_rfl) smSbok (Nat.le_of_ble_eq_true size) (by rw [← gls_eq]; exact laid_all size hL) (syC_ok (f := .known 11 131061873431810141261360485) (range64 w1) (range64 w2) (Nat.le_trans w0 (by decide)) s7 rfl) (VRL.cons (show VR _ (AV.str 11 131061873431810141261360485) _ from ⟨a0, rfl, s7.1, s7.2⟩) (VRL.cons (show VR _ (AV.sym 0) _ from ⟨a1, rfl, rfl⟩) (VRL.cons (show VR _ (AV.sym 1) _ from ⟨a2, rfl, rfl⟩) VRL.nil))) (run_s7 (tyOf w)) (by kernel_rfl)
  by_cases s8 : a0.data.toList.length = 11 ∧ num a0.data.toList 0 = 131061873431804605065683828
  · exact law_of_run (σ := σ2 a1 a2 a0.size) (ς := fun _ => a0) (by kernel_rfl) smSbok (Nat.le_of_ble_eq_true size) (by rw [← gls_eq]; exact laid_all size hL) (syC_ok (f := .known 11 131061873431804605065683828) (range64 w1) (range64 w2) (Nat.le_trans w0 (by decide)) s8 rfl) (VRL.cons (show VR _ (AV.str 11 131061873431804605065683828) _ from ⟨a0, rfl, s8.1, s8.2⟩) (VRL.cons (show VR _ (AV.sym 0) _ from ⟨a1, rfl, rfl⟩) (VRL.cons (show VR _ (AV.sym 1) _ from ⟨a2, rfl, rfl⟩) VRL.nil))) (run_s8 (tyOf w)) (by kernel_rfl)
  by_cases s9 : a0.data.toList.length = 12 ∧ num a0.data.toList 0 = 33551839598546478183959653477
  · exact law_of_run (σ := σ2 a1 a2 a0.size) (ς := fun _ => a0) (by kernel_rfl) smSbok (Nat.le_of_ble_eq_true size) (by rw [← gls_eq]; exact laid_all size hL) (syC_ok (f := .known 12 33551839598546478183959653477) (range64 w1) (range64 w2) (Nat.le_trans w0 (by decide)) s9 rfl) (VRL.cons (show VR _ (AV.str 12 33551839598546478183959653477) _ from ⟨a0, rfl, s9.1, s9.2⟩) (VRL.cons (show VR _ (AV.sym 0) _ from ⟨a1, rfl, rfl⟩) (VRL.cons (show VR _ (AV.sym 1) _ from ⟨a2, rfl, rfl⟩) VRL.nil))) (run_s9 (tyOf w)) (by kernel_rfl)
  by_cases s10 : a0.data.toList.length = 8 ∧ num a0.data.toList 0 = 7811896409500967288
  · exact law_of_run (σ := σ2 a1 a2 a0.size) (ς := fun _ => a0) (by kernel_rfl) smSbok (Nat.le_of_ble_eq_true size) (by rw [← gls_eq]; exact laid_all size hL) (syC_ok (f := .known 8 7811896409500967288) (range64 w1) (range64 w2) (Nat.le_trans w0 (by decide)) s10 rfl) (VRL.cons (show VR _ (AV.str 8 7811896409500967288) _ from ⟨a0, rfl, s10.1, s10.2⟩) (VRL.cons (show VR _ (AV.sym 0) _ from ⟨a1, rfl, rfl⟩) (VRL.cons (show VR _ (AV.sym 1) _ from ⟨a2, rfl, rfl⟩) VRL.nil))) (run_s10 (tyOf w)) (by kernel_rfl)
  by_cases s11 : a0.data.toList.length = 11 ∧ num a0.data.toList 0 = 131061873431803561404295540
  · exact law_of_run (σ := σ2 a1 a2 a0.size) (ς := fun _ => a0) (by kernel_rfl) smSbok (Nat.le_of_ble_eq_true size) (by rw [← gls_eq]; exact laid_all size hL) (syC_ok (f := .known 11 131061873431803561404295540) (range64 w1) (range64 w2) (Nat.le_trans w0 (by decide)) s11 rfl) (VRL.cons (show VR _ (AV.str 11 131061873431803561404295540) _ from ⟨a0, rfl, s11.1, s11.2⟩) (VRL.cons (show VR _ (AV.sym 0) _ from ⟨a1, rfl, rfl⟩) (VRL.cons (show VR _ (AV.sym 1) _ from ⟨a2, rfl, rfl⟩) VRL.nil))) (run_s11 (tyOf w)) (by kernel_rfl)
  by_cases s12 : a0.data.toList.length = 8 ∧ num a0.data.toList 0 = 7811896409499923813
  · exact law_of_run (σ := σ2 a1 a2 a0.size) (ς := fun _ => a0) (by kernel_rfl) smSbok (Nat.le_of_ble_eq_true size) (by rw [← gls_eq]; exact laid_all size hL) (syC_ok (f := .known 8 7811896409499923813) (range64 w1) (range64 w2) (Nat.le_trans w0 (by decide)) s12 rfl) (VRL.cons (show VR _ (AV.str 8 7811896409499923813) _ from ⟨a0, rfl, s12.1, s12.2⟩) (VRL.cons (show VR _ (AV.sym 0) _ from ⟨a1, rfl, rfl⟩) (VRL.cons (show VR _ (AV.sym 1) _ from ⟨a2, rfl, rfl⟩) VRL.nil))) (run_s12 (tyOf w)) (by kernel_rfl)
  by_cases s13 : a0.data.toList.length = 9 ∧ num a0.data.toList 0 = 1999845480832114324339
  · exact law_of_run (σ := σ2 a1 a2 a0.size) (ς := fun _ => a0) (by kernel_rfl) smSbok (Nat.le_of_ble_eq_true size) (by rw [← gls_eq]; exact laid_all size hL) (syC_ok (f := .known 9 1999845480832114324339) (range64 w1) (range64 w2) (Nat.le_trans w0 (by decide)) s13 rfl) (VRL.cons (show VR _ (AV.str 9 1999845480832114324339) _ from ⟨a0, rfl, s13.1, s13.2⟩) (VRL.cons (show VR _ (AV.sym 0) _ from ⟨a1, rfl, rfl⟩) (VRL.cons (show VR _ (AV.sym 1) _ from ⟨a2, rfl, rfl⟩) VRL.nil))) (run_s13 (tyOf w)) (by kernel_rfl)
  by_cases s14 : a0.data.toList.length = 9 ∧ num a0.data.toList 0 = 1999845480832265577828
  · exact law_of_run (σ := σ2 a1 a2 a0.size) (ς := fun _ => a0) (by kernel_rfl) smSbok (Nat.le_of_ble_eq_true size) (by rw [← gls_eq]; exact laid_all size hL) (syC_ok (f := .known 9 1999845480832265577828) (range64 w1) (range64 w2) (Nat.le_trans w0 (by decide)) s14 rfl) (VRL.cons (show VR _ (AV.str 9 1999845480832265577828) _ from ⟨a0, rfl, s14.1, s14.2⟩) (VRL.cons (show VR _ (AV.sym 0) _ from ⟨a1, rfl, rfl⟩) (VRL.cons (show VR _ (AV.sym 1) _ from ⟨a2, rfl, rfl⟩) VRL.nil))) (run_s14 (tyOf w)) (by kernel_rfl)
  exact law_of_run (σ := σ2 a1 a2 a0.size) (ς := fun _ => a0) (by kernel_rfl) smSbok (Nat.le_of_ble_eq_true size) (by rw [← gls_eq]; exact laid_all size hL) (syC_ok (f := .excl [(17, 38173369057568756034548228006048761867365), (16, 149114722881127953259954015610073607796), (15, 582478117989624392746924662566906981), (14, 2275305148396970284167635908783732), (7, 31576257714025317), (8, 8299698059951434853), (7, 32420656992317044), (11, 131061873431810141261360485), (11, 131061873431804605065683828), (12, 33551839598546478183959653477), (8, 7811896409500967288), (11, 131061873431803561404295540), (8, 7811896409499923813), (9, 1999845480832114324339), (9, 1999845480832265577828)]) (range64 w1) (range64 w2) (Nat.le_trans w0 (by decide)) (List.forall_mem_cons.2 ⟨s0, List.forall_mem_cons.2 ⟨s1, List.forall_mem_cons.2 ⟨s2, List.forall_mem_cons.2 ⟨s3, List.forall_mem_cons.2 ⟨s4, List.forall_mem_cons.2 ⟨s5, List.forall_mem_cons.2 ⟨s6, List.forall_mem_cons.2 ⟨s7, List.forall_mem_cons.2 ⟨s8, List.forall_mem_cons.2 ⟨s9, List.forall_mem_cons.2 ⟨s10, List.forall_mem_cons.2 ⟨s11, List.forall_mem_cons.2 ⟨s12, List.forall_mem_cons.2 ⟨s13, List.forall_mem_cons.2 ⟨s14, fun x h => nomatch h⟩⟩⟩⟩⟩⟩⟩⟩⟩⟩⟩⟩⟩⟩⟩) rfl) (VRL.cons (show VR _ (AV.strs 0 2) _ from ⟨rfl, rfl⟩) (VRL.cons (show VR _ (AV.sym 0) _ from ⟨a1, rfl, rfl⟩) (VRL.cons (show VR _ (AV.sym 1) _ from ⟨a2, rfl, rfl⟩) VRL.nil))) (run_sx (tyOf w)) (by kernel_rfl)
end Go.Proofs.YthfkajaeikhloaaGreatDoor.y2Force
