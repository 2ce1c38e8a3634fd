/- Proved: the card of the statement LawNotes, as it was given, with no condition of ours: whatever the input, the function returns true and its arguments read as before. -/
import Derived.Test.YtlnfollgpbcafaaGreatDoorCards
import Derived.Test.YtlnfollgpbcafaaGreatDoorTie
import Derived.Test.YtlnfollgpbcafaaGreatDoorLawNotesR0
import Derived.Test.YtlnfollgpbcafaaGreatDoorLawNotesR1
import Derived.Test.YtlnfollgpbcafaaGreatDoorLawNotesR2
import Derived.Test.YtlnfollgpbcafaaGreatDoorLawNotesR3
import Derived.Test.YtlnfollgpbcafaaGreatDoorLawNotesR4
import Derived.WalkKit
import Derived.ProofKit
import Derived.OpenShut
import Derived.LaidMore
import Derived.Lay
import Derived.LaidOnce
import Derived.SevenTiedAt
import Derived.ChangeSame
import Derived.Below
import Derived.Handed
import Derived.ChangeMaps5
namespace Go.Proofs.YtlnfollgpbcafaaGreatDoor.lawNotes
open Go Go.Proofs.YtlnfollgpbcafaaGreatDoor.Xq Go.ChangeShapes Go.WideShapes Go.ChangeAt Go.RowKit
set_option linter.unusedVariables false
theorem own : ownKnob Tryz.prog.godebug = none := by kernel_rfl
theorem laidOut : laidOutB Tryz.prog = true := by kernel_rfl
theorem size : Nat.ble Tryz.prog.globals.size 1000 = true := by kernel_rfl
theorem walk (a0 : Int) (w0 : (Lit.int .i64 a0).wf = true) (a1 : ByteArray) (w1 : a1.size ≤ maxLen) (w : World) (hL : laidMetH Tryz.prog Rows.lawNotesRow.laid w) :
    Calls Tryz.prog 3 #[.int .i64 a0, .string a1] w fun e w' => e = .returned (.bool true) ∧ Below w.heap.size w w' := by
  rw [MakeChecks.laidMetH_plain _ _ _ (by kernel_rfl)] at hL
  by_cases s0 : a1.data.toList.length = 6 ∧ num a1.data.toList 0 = 133252138627177
  · exact law_of_run (σ := σ2 a0 0 a1.size) (ς := fun _ => a1) (by kernel_rfl) smSeok (Nat.le_of_ble_eq_true size) (by rw [← gls_eq]; exact laid_all size hL) (syC_ok (f := .known 6 133252138627177) (range64 w0) (by decide) (Nat.le_trans w1 (by decide)) s0 rfl) (VRL.cons (show VR _ (AV.sym 0) _ from ⟨a0, rfl, rfl⟩) (VRL.cons (show VR _ (AV.str 6 133252138627177) _ from ⟨a1, rfl, s0.1, s0.2⟩) VRL.nil)) (run_s0 (tyOf w)) (by kernel_rfl)
  by_cases s1 : a1.data.toList.length = 9 ∧ num a1.data.toList 0 = 2235599915444109340530
  · exact law_of_run (σ := σ2 a0 0 a1.size) (ς := fun _ => a1) (by kernel_rfl) smSeok (Nat.le_of_ble_eq_true size) (by rw [← gls_eq]; exact laid_all size hL) (syC_ok (f := .known 9 2235599915444109340530) (range64 w0) (by decide) (Nat.le_trans w1 (by decide)) s1 rfl) (VRL.cons (show VR _ (AV.sym 0) _ from ⟨a0, rfl, rfl⟩) (VRL.cons (show VR _ (AV.str 9 2235599915444109340530) _ from ⟨a1, rfl, s1.1, s1.2⟩) VRL.nil)) (run_s1 (tyOf w)) (by kernel_rfl)
  by_cases s2 : a1.data.toList.length = 11 ∧ num a1.data.toList 0 = 146512277000639671812846180
  · exact law_of_run (σ := σ2 a0 0 a1.size) (ς := fun _ => a1) (by kernel_rfl) smSeok (Nat.le_of_ble_eq_true size) (by rw [← gls_eq]; exact laid_all size hL) (syC_ok (f := .known 11 146512277000639671812846180) (range64 w0) (by decide) (Nat.le_trans w1 (by decide)) s2 rfl) (VRL.cons (show VR _ (AV.sym 0) _ from ⟨a0, rfl, rfl⟩) (VRL.cons (show VR _ (AV.str 11 146512277000639671812846180) _ from ⟨a1, rfl, s2.1, s2.2⟩) VRL.nil)) (run_s2 (tyOf w)) (by kernel_rfl)
  by_cases s3 : a1.data.toList.length = 6 ∧ num a1.data.toList 0 = 133252139741040
  · exact law_of_run (σ := σ2 a0 0 a1.size) (ς := fun _ => a1) (by kernel_rfl) smSeok (Nat.le_of_ble_eq_true size) (by rw [← gls_eq]; exact laid_all size hL) (syC_ok (f := .known 6 133252139741040) (range64 w0) (by decide) (Nat.le_trans w1 (by decide)) s3 rfl) (VRL.cons (show VR _ (AV.sym 0) _ from ⟨a0, rfl, rfl⟩) (VRL.cons (show VR _ (AV.str 6 133252139741040) _ from ⟨a1, rfl, s3.1, s3.2⟩) VRL.nil)) (run_s3 (tyOf w)) (by kernel_rfl)
  by_cases s4 : a1.data.toList.length = 7 ∧ num a1.data.toList 0 = 34112547739235429
  · exact law_of_run (σ := σ2 a0 0 a1.size) (ς := fun _ => a1) (by kernel_rfl) smSeok (Nat.le_of_ble_eq_true size) (by rw [← gls_eq]; exact laid_all size hL) (syC_ok (f := .known 7 34112547739235429) (range64 w0) (by decide) (Nat.le_trans w1 (by decide)) s4 rfl) (VRL.cons (show VR _ (AV.sym 0) _ from ⟨a0, rfl, rfl⟩) (VRL.cons (show VR _ (AV.str 7 34112547739235429) _ from ⟨a1, rfl, s4.1, s4.2⟩) VRL.nil)) (run_s4 (tyOf w)) (by kernel_rfl)
  by_cases s5 : a1.data.toList.length = 9 ∧ num a1.data.toList 0 = 2235599912218621405556
  · exact law_of_run (σ := σ2 a0 0 a1.size) (ς := fun _ => a1) (by kernel_rfl) smSeok (Nat.le_of_ble_eq_true size) (by rw [← gls_eq]; exact laid_all size hL) (syC_ok (f := .known 9 2235599912218621405556) (range64 w0) (by decide) (Nat.le_trans w1 (by decide)) s5 rfl) (VRL.cons (show VR _ (AV.sym 0) _ from ⟨a0, rfl, rfl⟩) (VRL.cons (show VR _ (AV.str 9 2235599912218621405556) _ from ⟨a1, rfl, s5.1, s5.2⟩) VRL.nil)) (run_s5 (tyOf w)) (by kernel_rfl)
  by_cases s6 : a1.data.toList.length = 8 ∧ num a1.data.toList 0 = 8732812212770534245
  · exact law_of_run (σ := σ2 a0 0 a1.size) (ς := fun _ => a1) (by kernel_rfl) smSeok (Nat.le_of_ble_eq_true size) (by rw [← gls_eq]; exact laid_all size hL) (syC_ok (f := .known 8 8732812212770534245) (range64 w0) (by decide) (Nat.le_trans w1 (by decide)) s6 rfl) (VRL.cons (show VR _ (AV.sym 0) _ from ⟨a0, rfl, rfl⟩) (VRL.cons (show VR _ (AV.str 8 8732812212770534245) _ from ⟨a1, rfl, s6.1, s6.2⟩) VRL.nil)) (run_s6 (tyOf w)) (by kernel_rfl)
  by_cases s7 : a1.data.toList.length = 8 ∧ num a1.data.toList 0 = 8732812169703552115
  · exact law_of_run (σ := σ2 a0 0 a1.size) (ς := fun _ => a1) (by kernel_rfl) smSeok (Nat.le_of_ble_eq_true size) (by rw [← gls_eq]; exact laid_all size hL) (syC_ok (f := .known 8 8732812169703552115) (range64 w0) (by decide) (Nat.le_trans w1 (by decide)) s7 rfl) (VRL.cons (show VR _ (AV.sym 0) _ from ⟨a0, rfl, rfl⟩) (VRL.cons (show VR _ (AV.str 8 8732812169703552115) _ from ⟨a1, rfl, s7.1, s7.2⟩) VRL.nil)) (run_s7 (tyOf w)) (by kernel_rfl)
  by_cases s8 : a1.data.toList.length = 13 ∧ num a1.data.toList 0 = 9601828571310939658861394488947
  · exact law_of_run (σ := σ2 a0 0 a1.size) (ς := fun _ => a1) (by kernel_rfl) smSeok (Nat.le_of_ble_eq_true size) (by rw [← gls_eq]; exact laid_all size hL) (syC_ok (f := .known 13 9601828571310939658861394488947) (range64 w0) (by decide) (Nat.le_trans w1 (by decide)) s8 rfl) (VRL.cons (show VR _ (AV.sym 0) _ from ⟨a0, rfl, rfl⟩) (VRL.cons (show VR _ (AV.str 13 9601828571310939658861394488947) _ from ⟨a1, rfl, s8.1, s8.2⟩) VRL.nil)) (run_s8 (tyOf w)) (by kernel_rfl)
  by_cases s9 : a1.data.toList.length = 6 ∧ num a1.data.toList 0 = 133252138495084
  · exact law_of_run (σ := σ2 a0 0 a1.size) (ς := fun _ => a1) (by kernel_rfl) smSeok (Nat.le_of_ble_eq_true size) (by rw [← gls_eq]; exact laid_all size hL) (syC_ok (f := .known 6 133252138495084) (range64 w0) (by decide) (Nat.le_trans w1 (by decide)) s9 rfl) (VRL.cons (show VR _ (AV.sym 0) _ from ⟨a0, rfl, rfl⟩) (VRL.cons (show VR _ (AV.str 6 133252138495084) _ from ⟨a1, rfl, s9.1, s9.2⟩) VRL.nil)) (run_s9 (tyOf w)) (by kernel_rfl)
  by_cases s10 : a1.data.toList.length = 6 ∧ num a1.data.toList 0 = 133256433594473
  · exact law_of_run (σ := σ2 a0 0 a1.size) (ς := fun _ => a1) (by kernel_rfl) smSeok (Nat.le_of_ble_eq_true size) (by rw [← gls_eq]; exact laid_all size hL) (syC_ok (f := .known 6 133256433594473) (range64 w0) (by decide) (Nat.le_trans w1 (by decide)) s10 rfl) (VRL.cons (show VR _ (AV.sym 0) _ from ⟨a0, rfl, rfl⟩) (VRL.cons (show VR _ (AV.str 6 133256433594473) _ from ⟨a1, rfl, s10.1, s10.2⟩) VRL.nil)) (run_s10 (tyOf w)) (by kernel_rfl)
  by_cases s11 : a1.data.toList.length = 9 ∧ num a1.data.toList 0 = 2235671973038147268466
  · exact law_of_run (σ := σ2 a0 0 a1.size) (ς := fun _ => a1) (by kernel_rfl) smSeok (Nat.le_of_ble_eq_true size) (by rw [← gls_eq]; exact laid_all size hL) (syC_ok (f := .known 9 2235671973038147268466) (range64 w0) (by decide) (Nat.le_trans w1 (by decide)) s11 rfl) (VRL.cons (show VR _ (AV.sym 0) _ from ⟨a0, rfl, rfl⟩) (VRL.cons (show VR _ (AV.str 9 2235671973038147268466) _ from ⟨a1, rfl, s11.1, s11.2⟩) VRL.nil)) (run_s11 (tyOf w)) (by kernel_rfl)
  by_cases s12 : a1.data.toList.length = 11 ∧ num a1.data.toList 0 = 146516999367122541458059876
  · exact law_of_run (σ := σ2 a0 0 a1.size) (ς := fun _ => a1) (by kernel_rfl) smSeok (Nat.le_of_ble_eq_true size) (by rw [← gls_eq]; exact laid_all size hL) (syC_ok (f := .known 11 146516999367122541458059876) (range64 w0) (by decide) (Nat.le_trans w1 (by decide)) s12 rfl) (VRL.cons (show VR _ (AV.sym 0) _ from ⟨a0, rfl, rfl⟩) (VRL.cons (show VR _ (AV.str 11 146516999367122541458059876) _ from ⟨a1, rfl, s12.1, s12.2⟩) VRL.nil)) (run_s12 (tyOf w)) (by kernel_rfl)
  by_cases s13 : a1.data.toList.length = 6 ∧ num a1.data.toList 0 = 133256434708336
  · exact law_of_run (σ := σ2 a0 0 a1.size) (ς := fun _ => a1) (by kernel_rfl) smSeok (Nat.le_of_ble_eq_true size) (by rw [← gls_eq]; exact laid_all size hL) (syC_ok (f := .known 6 133256434708336) (range64 w0) (by decide) (Nat.le_trans w1 (by decide)) s13 rfl) (VRL.cons (show VR _ (AV.sym 0) _ from ⟨a0, rfl, rfl⟩) (VRL.cons (show VR _ (AV.str 6 133256434708336) _ from ⟨a1, rfl, s13.1, s13.2⟩) VRL.nil)) (run_s13 (tyOf w)) (by kernel_rfl)
  by_cases s14 : a1.data.toList.length = 7 ∧ num a1.data.toList 0 = 34113647250863205
  · exact law_of_run (σ := σ2 a0 0 a1.size) (ς := fun _ => a1) (by kernel_rfl) smSeok (Nat.le_of_ble_eq_true size) (by rw [← gls_eq]; exact laid_all size hL) (syC_ok (f := .known 7 34113647250863205) (range64 w0) (by decide) (Nat.le_trans w1 (by decide)) s14 rfl) (VRL.cons (show VR _ (AV.sym 0) _ from ⟨a0, rfl, rfl⟩) (VRL.cons (show VR _ (AV.str 7 34113647250863205) _ from ⟨a1, rfl, s14.1, s14.2⟩) VRL.nil)) (run_s14 (tyOf w)) (by kernel_rfl)
  by_cases s15 : a1.data.toList.length = 9 ∧ num a1.data.toList 0 = 2235671969812659333492
  · exact law_of_run (σ := σ2 a0 0 a1.size) (ς := fun _ => a1) (by kernel_rfl) smSeok (Nat.le_of_ble_eq_true size) (by rw [← gls_eq]; exact laid_all size hL) (syC_ok (f := .known 9 2235671969812659333492) (range64 w0) (by decide) (Nat.le_trans w1 (by decide)) s15 rfl) (VRL.cons (show VR _ (AV.sym 0) _ from ⟨a0, rfl, rfl⟩) (VRL.cons (show VR _ (AV.str 9 2235671969812659333492) _ from ⟨a1, rfl, s15.1, s15.2⟩) VRL.nil)) (run_s15 (tyOf w)) (by kernel_rfl)
  by_cases s16 : a1.data.toList.length = 8 ∧ num a1.data.toList 0 = 8733093687747244901
  · exact law_of_run (σ := σ2 a0 0 a1.size) (ς := fun _ => a1) (by kernel_rfl) smSeok (Nat.le_of_ble_eq_true size) (by rw [← gls_eq]; exact laid_all size hL) (syC_ok (f := .known 8 8733093687747244901) (range64 w0) (by decide) (Nat.le_trans w1 (by decide)) s16 rfl) (VRL.cons (show VR _ (AV.sym 0) _ from ⟨a0, rfl, rfl⟩) (VRL.cons (show VR _ (AV.str 8 8733093687747244901) _ from ⟨a1, rfl, s16.1, s16.2⟩) VRL.nil)) (run_s16 (tyOf w)) (by kernel_rfl)
  by_cases s17 : a1.data.toList.length = 8 ∧ num a1.data.toList 0 = 8733093644680262771
  · exact law_of_run (σ := σ2 a0 0 a1.size) (ς := fun _ => a1) (by kernel_rfl) smSeok (Nat.le_of_ble_eq_true size) (by rw [← gls_eq]; exact laid_all size hL) (syC_ok (f := .known 8 8733093644680262771) (range64 w0) (by decide) (Nat.le_trans w1 (by decide)) s17 rfl) (VRL.cons (show VR _ (AV.sym 0) _ from ⟨a0, rfl, rfl⟩) (VRL.cons (show VR _ (AV.str 8 8733093644680262771) _ from ⟨a1, rfl, s17.1, s17.2⟩) VRL.nil)) (run_s17 (tyOf w)) (by kernel_rfl)
  by_cases s18 : a1.data.toList.length = 13 ∧ num a1.data.toList 0 = 9602138056320761003930119270003
  · exact law_of_run (σ := σ2 a0 0 a1.size) (ς := fun _ => a1) (by kernel_rfl) smSeok (Nat.le_of_ble_eq_true size) (by rw [← gls_eq]; exact laid_all size hL) (syC_ok (f := .known 13 9602138056320761003930119270003) (range64 w0) (by decide) (Nat.le_trans w1 (by decide)) s18 rfl) (VRL.cons (show VR _ (AV.sym 0) _ from ⟨a0, rfl, rfl⟩) (VRL.cons (show VR _ (AV.str 13 9602138056320761003930119270003) _ from ⟨a1, rfl, s18.1, s18.2⟩) VRL.nil)) (run_s18 (tyOf w)) (by kernel_rfl)
  by_cases s19 : a1.data.toList.length = 6 ∧ num a1.data.toList 0 = 133256433462380
  · exact law_of_run (σ := σ2 a0 0 a1.size) (ς := fun _ => a1) (by kernel_rfl) smSeok (Nat.le_of_ble_eq_true size) (by rw [← gls_eq]; exact laid_all size hL) (syC_ok (f := .known 6 133256433462380) (range64 w0) (by decide) (Nat.le_trans w1 (by decide)) s19 rfl) (VRL.cons (show VR _ (AV.sym 0) _ from ⟨a0, rfl, rfl⟩) (VRL.cons (show VR _ (AV.str 6 133256433462380) _ from ⟨a1, rfl, s19.1, s19.2⟩) VRL.nil)) (run_s19 (tyOf w)) (by kernel_rfl)
  by_cases s20 : a1.data.toList.length = 6 ∧ num a1.data.toList 0 = 133260728561769
  · exact law_of_run (σ := σ2 a0 0 a1.size) (ς := fun _ => a1) (by kernel_rfl) smSeok (Nat.le_of_ble_eq_true size) (by rw [← gls_eq]; exact laid_all size hL) (syC_ok (f := .known 6 133260728561769) (range64 w0) (by decide) (Nat.le_trans w1 (by decide)) s20 rfl) (VRL.cons (show VR _ (AV.sym 0) _ from ⟨a0, rfl, rfl⟩) (VRL.cons (show VR _ (AV.str 6 133260728561769) _ from ⟨a1, rfl, s20.1, s20.2⟩) VRL.nil)) (run_s20 (tyOf w)) (by kernel_rfl)
  by_cases s21 : a1.data.toList.length = 9 ∧ num a1.data.toList 0 = 2235744030632185196402
  · exact law_of_run (σ := σ2 a0 0 a1.size) (ς := fun _ => a1) (by kernel_rfl) smSeok (Nat.le_of_ble_eq_true size) (by rw [← gls_eq]; exact laid_all size hL) (syC_ok (f := .known 9 2235744030632185196402) (range64 w0) (by decide) (Nat.le_trans w1 (by decide)) s21 rfl) (VRL.cons (show VR _ (AV.sym 0) _ from ⟨a0, rfl, rfl⟩) (VRL.cons (show VR _ (AV.str 9 2235744030632185196402) _ from ⟨a1, rfl, s21.1, s21.2⟩) VRL.nil)) (run_s21 (tyOf w)) (by kernel_rfl)
  by_cases s22 : a1.data.toList.length = 11 ∧ num a1.data.toList 0 = 146521721733605411103273572
  · exact law_of_run (σ := σ2 a0 0 a1.size) (ς := fun _ => a1) (by kernel_rfl) smSeok (Nat.le_of_ble_eq_true size) (by rw [← gls_eq]; exact laid_all size hL) (syC_ok (f := .known 11 146521721733605411103273572) (range64 w0) (by decide) (Nat.le_trans w1 (by decide)) s22 rfl) (VRL.cons (show VR _ (AV.sym 0) _ from ⟨a0, rfl, rfl⟩) (VRL.cons (show VR _ (AV.str 11 146521721733605411103273572) _ from ⟨a1, rfl, s22.1, s22.2⟩) VRL.nil)) (run_s22 (tyOf w)) (by kernel_rfl)
  by_cases s23 : a1.data.toList.length = 6 ∧ num a1.data.toList 0 = 133260729675632
  · exact law_of_run (σ := σ2 a0 0 a1.size) (ς := fun _ => a1) (by kernel_rfl) smSeok (Nat.le_of_ble_eq_true size) (by rw [← gls_eq]; exact laid_all size hL) (syC_ok (f := .known 6 133260729675632) (range64 w0) (by decide) (Nat.le_trans w1 (by decide)) s23 rfl) (VRL.cons (show VR _ (AV.sym 0) _ from ⟨a0, rfl, rfl⟩) (VRL.cons (show VR _ (AV.str 6 133260729675632) _ from ⟨a1, rfl, s23.1, s23.2⟩) VRL.nil)) (run_s23 (tyOf w)) (by kernel_rfl)
  by_cases s24 : a1.data.toList.length = 7 ∧ num a1.data.toList 0 = 34114746762490981
  · exact law_of_run (σ := σ2 a0 0 a1.size) (ς := fun _ => a1) (by kernel_rfl) smSeok (Nat.le_of_ble_eq_true size) (by rw [← gls_eq]; exact laid_all size hL) (syC_ok (f := .known 7 34114746762490981) (range64 w0) (by decide) (Nat.le_trans w1 (by decide)) s24 rfl) (VRL.cons (show VR _ (AV.sym 0) _ from ⟨a0, rfl, rfl⟩) (VRL.cons (show VR _ (AV.str 7 34114746762490981) _ from ⟨a1, rfl, s24.1, s24.2⟩) VRL.nil)) (run_s24 (tyOf w)) (by kernel_rfl)
  by_cases s25 : a1.data.toList.length = 9 ∧ num a1.data.toList 0 = 2235744027406697261428
  · exact law_of_run (σ := σ2 a0 0 a1.size) (ς := fun _ => a1) (by kernel_rfl) smSeok (Nat.le_of_ble_eq_true size) (by rw [← gls_eq]; exact laid_all size hL) (syC_ok (f := .known 9 2235744027406697261428) (range64 w0) (by decide) (Nat.le_trans w1 (by decide)) s25 rfl) (VRL.cons (show VR _ (AV.sym 0) _ from ⟨a0, rfl, rfl⟩) (VRL.cons (show VR _ (AV.str 9 2235744027406697261428) _ from ⟨a1, rfl, s25.1, s25.2⟩) VRL.nil)) (run_s25 (tyOf w)) (by kernel_rfl)
  by_cases s26 : a1.data.toList.length = 8 ∧ num a1.data.toList 0 = 8733375162723955557
  · exact law_of_run (σ := σ2 a0 0 a1.size) (ς := fun _ => a1) (by kernel_rfl) smSeok (Nat.le_of_ble_eq_true size) (by rw [← gls_eq]; exact laid_all size hL) (syC_ok (f := .known 8 8733375162723955557) (range64 w0) (by decide) (Nat.le_trans w1 (by decide)) s26 rfl) (VRL.cons (show VR _ (AV.sym 0) _ from ⟨a0, rfl, rfl⟩) (VRL.cons (show VR _ (AV.str 8 8733375162723955557) _ from ⟨a1, rfl, s26.1, s26.2⟩) VRL.nil)) (run_s26 (tyOf w)) (by kernel_rfl)
  by_cases s27 : a1.data.toList.length = 8 ∧ num a1.data.toList 0 = 8733375119656973427
  · exact law_of_run (σ := σ2 a0 0 a1.size) (ς := fun _ => a1) (by kernel_rfl) smSeok (Nat.le_of_ble_eq_true size) (by rw [← gls_eq]; exact laid_all size hL) (syC_ok (f := .known 8 8733375119656973427) (range64 w0) (by decide) (Nat.le_trans w1 (by decide)) s27 rfl) (VRL.cons (show VR _ (AV.sym 0) _ from ⟨a0, rfl, rfl⟩) (VRL.cons (show VR _ (AV.str 8 8733375119656973427) _ from ⟨a1, rfl, s27.1, s27.2⟩) VRL.nil)) (run_s27 (tyOf w)) (by kernel_rfl)
  by_cases s28 : a1.data.toList.length = 13 ∧ num a1.data.toList 0 = 9602447541330582348998844051059
  · exact law_of_run (σ := σ2 a0 0 a1.size) (ς := fun _ => a1) (by kernel_rfl) smSeok (Nat.le_of_ble_eq_true size) (by rw [← gls_eq]; exact laid_all size hL) (syC_ok (f := .known 13 9602447541330582348998844051059) (range64 w0) (by decide) (Nat.le_trans w1 (by decide)) s28 rfl) (VRL.cons (show VR _ (AV.sym 0) _ from ⟨a0, rfl, rfl⟩) (VRL.cons (show VR _ (AV.str 13 9602447541330582348998844051059) _ from ⟨a1, rfl, s28.1, s28.2⟩) VRL.nil)) (run_s28 (tyOf w)) (by kernel_rfl)
  by_cases s29 : a1.data.toList.length = 6 ∧ num a1.data.toList 0 = 133260728429676
  · exact law_of_run (σ := σ2 a0 0 a1.size) (ς := fun _ => a1) (by kernel_rfl) smSeok (Nat.le_of_ble_eq_true size) (by rw [← gls_eq]; exact laid_all size hL) (syC_ok (f := .known 6 133260728429676) (range64 w0) (by decide) (Nat.le_trans w1 (by decide)) s29 rfl) (VRL.cons (show VR _ (AV.sym 0) _ from ⟨a0, rfl, rfl⟩) (VRL.cons (show VR _ (AV.str 6 133260728429676) _ from ⟨a1, rfl, s29.1, s29.2⟩) VRL.nil)) (run_s29 (tyOf w)) (by kernel_rfl)
  by_cases s30 : a1.data.toList.length = 6 ∧ num a1.data.toList 0 = 133265023529065
  · exact law_of_run (σ := σ2 a0 0 a1.size) (ς := fun _ => a1) (by kernel_rfl) smSeok (Nat.le_of_ble_eq_true size) (by rw [← gls_eq]; exact laid_all size hL) (syC_ok (f := .known 6 133265023529065) (range64 w0) (by decide) (Nat.le_trans w1 (by decide)) s30 rfl) (VRL.cons (show VR _ (AV.sym 0) _ from ⟨a0, rfl, rfl⟩) (VRL.cons (show VR _ (AV.str 6 133265023529065) _ from ⟨a1, rfl, s30.1, s30.2⟩) VRL.nil)) (run_s30 (tyOf w)) (by kernel_rfl)
  by_cases s31 : a1.data.toList.length = 9 ∧ num a1.data.toList 0 = 2235816088226223124338
  · exact law_of_run (σ := σ2 a0 0 a1.size) (ς := fun _ => a1) (by kernel_rfl) smSeok (Nat.le_of_ble_eq_true size) (by rw [← gls_eq]; exact laid_all size hL) (syC_ok (f := .known 9 2235816088226223124338) (range64 w0) (by decide) (Nat.le_trans w1 (by decide)) s31 rfl) (VRL.cons (show VR _ (AV.sym 0) _ from ⟨a0, rfl, rfl⟩) (VRL.cons (show VR _ (AV.str 9 2235816088226223124338) _ from ⟨a1, rfl, s31.1, s31.2⟩) VRL.nil)) (run_s31 (tyOf w)) (by kernel_rfl)
  by_cases s32 : a1.data.toList.length = 11 ∧ num a1.data.toList 0 = 146526444100088280748487268
  · exact law_of_run (σ := σ2 a0 0 a1.size) (ς := fun _ => a1) (by kernel_rfl) smSeok (Nat.le_of_ble_eq_true size) (by rw [← gls_eq]; exact laid_all size hL) (syC_ok (f := .known 11 146526444100088280748487268) (range64 w0) (by decide) (Nat.le_trans w1 (by decide)) s32 rfl) (VRL.cons (show VR _ (AV.sym 0) _ from ⟨a0, rfl, rfl⟩) (VRL.cons (show VR _ (AV.str 11 146526444100088280748487268) _ from ⟨a1, rfl, s32.1, s32.2⟩) VRL.nil)) (run_s32 (tyOf w)) (by kernel_rfl)
  by_cases s33 : a1.data.toList.length = 6 ∧ num a1.data.toList 0 = 133265024642928
  · exact law_of_run (σ := σ2 a0 0 a1.size) (ς := fun _ => a1) (by kernel_rfl) smSeok (Nat.le_of_ble_eq_true size) (by rw [← gls_eq]; exact laid_all size hL) (syC_ok (f := .known 6 133265024642928) (range64 w0) (by decide) (Nat.le_trans w1 (by decide)) s33 rfl) (VRL.cons (show VR _ (AV.sym 0) _ from ⟨a0, rfl, rfl⟩) (VRL.cons (show VR _ (AV.str 6 133265024642928) _ from ⟨a1, rfl, s33.1, s33.2⟩) VRL.nil)) (run_s33 (tyOf w)) (by kernel_rfl)
  by_cases s34 : a1.data.toList.length = 7 ∧ num a1.data.toList 0 = 34115846274118757
  · exact law_of_run (σ := σ2 a0 0 a1.size) (ς := fun _ => a1) (by kernel_rfl) smSeok (Nat.le_of_ble_eq_true size) (by rw [← gls_eq]; exact laid_all size hL) (syC_ok (f := .known 7 34115846274118757) (range64 w0) (by decide) (Nat.le_trans w1 (by decide)) s34 rfl) (VRL.cons (show VR _ (AV.sym 0) _ from ⟨a0, rfl, rfl⟩) (VRL.cons (show VR _ (AV.str 7 34115846274118757) _ from ⟨a1, rfl, s34.1, s34.2⟩) VRL.nil)) (run_s34 (tyOf w)) (by kernel_rfl)
  by_cases s35 : a1.data.toList.length = 9 ∧ num a1.data.toList 0 = 2235816085000735189364
  · exact law_of_run (σ := σ2 a0 0 a1.size) (ς := fun _ => a1) (by kernel_rfl) smSeok (Nat.le_of_ble_eq_true size) (by rw [← gls_eq]; exact laid_all size hL) (syC_ok (f := .known 9 2235816085000735189364) (range64 w0) (by decide) (Nat.le_trans w1 (by decide)) s35 rfl) (VRL.cons (show VR _ (AV.sym 0) _ from ⟨a0, rfl, rfl⟩) (VRL.cons (show VR _ (AV.str 9 2235816085000735189364) _ from ⟨a1, rfl, s35.1, s35.2⟩) VRL.nil)) (run_s35 (tyOf w)) (by kernel_rfl)
  by_cases s36 : a1.data.toList.length = 8 ∧ num a1.data.toList 0 = 8733656637700666213
  · exact law_of_run (σ := σ2 a0 0 a1.size) (ς := fun _ => a1) (by kernel_rfl) smSeok (Nat.le_of_ble_eq_true size) (by rw [← gls_eq]; exact laid_all size hL) (syC_ok (f := .known 8 8733656637700666213) (range64 w0) (by decide) (Nat.le_trans w1 (by decide)) s36 rfl) (VRL.cons (show VR _ (AV.sym 0) _ from ⟨a0, rfl, rfl⟩) (VRL.cons (show VR _ (AV.str 8 8733656637700666213) _ from ⟨a1, rfl, s36.1, s36.2⟩) VRL.nil)) (run_s36 (tyOf w)) (by kernel_rfl)
  by_cases s37 : a1.data.toList.length = 8 ∧ num a1.data.toList 0 = 8733656594633684083
  · exact law_of_run (σ := σ2 a0 0 a1.size) (ς := fun _ => a1) (by kernel_rfl) smSeok (Nat.le_of_ble_eq_true size) (by rw [← gls_eq]; exact laid_all size hL) (syC_ok (f := .known 8 8733656594633684083) (range64 w0) (by decide) (Nat.le_trans w1 (by decide)) s37 rfl) (VRL.cons (show VR _ (AV.sym 0) _ from ⟨a0, rfl, rfl⟩) (VRL.cons (show VR _ (AV.str 8 8733656594633684083) _ from ⟨a1, rfl, s37.1, s37.2⟩) VRL.nil)) (run_s37 (tyOf w)) (by kernel_rfl)
  by_cases s38 : a1.data.toList.length = 13 ∧ num a1.data.toList 0 = 9602757026340403694067568832115
  · exact law_of_run (σ := σ2 a0 0 a1.size) (ς := fun _ => a1) (by kernel_rfl) smSeok (Nat.le_of_ble_eq_true size) (by rw [← gls_eq]; exact laid_all size hL) (syC_ok (f := .known 13 9602757026340403694067568832115) (range64 w0) (by decide) (Nat.le_trans w1 (by decide)) s38 rfl) (VRL.cons (show VR _ (AV.sym 0) _ from ⟨a0, rfl, rfl⟩) (VRL.cons (show VR _ (AV.str 13 9602757026340403694067568832115) _ from ⟨a1, rfl, s38.1, s38.2⟩) VRL.nil)) (run_s38 (tyOf w)) (by kernel_rfl)
  by_cases s39 : a1.data.toList.length = 6 ∧ num a1.data.toList 0 = 133265023396972
  · exact law_of_run (σ := σ2 a0 0 a1.size) (ς := fun _ => a1) (by kernel_rfl) smSeok (Nat.le_of_ble_eq_true size) (by rw [← gls_eq]; exact laid_all size hL) (syC_ok (f := .known 6 133265023396972) (range64 w0) (by decide) (Nat.le_trans w1 (by decide)) s39 rfl) (VRL.cons (show VR _ (AV.sym 0) _ from ⟨a0, rfl, rfl⟩) (VRL.cons (show VR _ (AV.str 6 133265023396972) _ from ⟨a1, rfl, s39.1, s39.2⟩) VRL.nil)) (run_s39 (tyOf w)) (by kernel_rfl)
  by_cases s40 : a1.data.toList.length = 10 ∧ num a1.data.toList 0 = 511813502235928329151844
  · exact law_of_run (σ := σ2 a0 0 a1.size) (ς := fun _ => a1) (by kernel_rfl) smSeok (Nat.le_of_ble_eq_true size) (by rw [← gls_eq]; exact laid_all size hL) (syC_ok (f := .known 10 511813502235928329151844) (range64 w0) (by decide) (Nat.le_trans w1 (by decide)) s40 rfl) (VRL.cons (show VR _ (AV.sym 0) _ from ⟨a0, rfl, rfl⟩) (VRL.cons (show VR _ (AV.str 10 511813502235928329151844) _ from ⟨a1, rfl, s40.1, s40.2⟩) VRL.nil)) (run_s40 (tyOf w)) (by kernel_rfl)
  exact law_of_run (σ := σ2 a0 0 a1.size) (ς := fun _ => a1) (by kernel_rfl) smSeok (Nat.le_of_ble_eq_true size) (by rw [← gls_eq]; exact laid_all size hL) (syC_ok (f := .excl [(6, 133252138627177), (9, 2235599915444109340530), (11, 146512277000639671812846180), (6, 133252139741040), (7, 34112547739235429), (9, 2235599912218621405556), (8, 8732812212770534245), (8, 8732812169703552115), (13, 9601828571310939658861394488947), (6, 133252138495084), (6, 133256433594473), (9, 2235671973038147268466), (11, 146516999367122541458059876), (6, 133256434708336), (7, 34113647250863205), (9, 2235671969812659333492), (8, 8733093687747244901), (8, 8733093644680262771), (13, 9602138056320761003930119270003), (6, 133256433462380), (6, 133260728561769), (9, 2235744030632185196402), (11, 146521721733605411103273572), (6, 133260729675632), (7, 34114746762490981), (9, 2235744027406697261428), (8, 8733375162723955557), (8, 8733375119656973427), (13, 9602447541330582348998844051059), (6, 133260728429676), (6, 133265023529065), (9, 2235816088226223124338), (11, 146526444100088280748487268), (6, 133265024642928), (7, 34115846274118757), (9, 2235816085000735189364), (8, 8733656637700666213), (8, 8733656594633684083), (13, 9602757026340403694067568832115), (6, 133265023396972), (10, 511813502235928329151844)]) (range64 w0) (by decide) (Nat.le_trans w1 (by decide)) (List.forall_mem_cons.2 ⟨s0, List.forall_mem_cons.2 ⟨s1, List.forall_mem_cons.2 ⟨s2, List.forall_mem_cons.2 ⟨s3, List.forall_mem_cons.2 ⟨s4, List.forall_mem_cons.2 ⟨s5, List.forall_mem_cons.2 ⟨s6, List.forall_mem_cons.2 ⟨s7, List.forall_mem_cons.2 ⟨s8, List.forall_mem_cons.2 ⟨s9, List.forall_mem_cons.2 ⟨s10, List.forall_mem_cons.2 ⟨s11, List.forall_mem_cons.2 ⟨s12, List.forall_mem_cons.2 ⟨s13, List.forall_mem_cons.2 ⟨s14, List.forall_mem_cons.2 ⟨s15, List.forall_mem_cons.2 ⟨s16, List.forall_mem_cons.2 ⟨s17, List.forall_mem_cons.2 ⟨s18, List.forall_mem_cons.2 ⟨s19, List.forall_mem_cons.2 ⟨s20, List.forall_mem_cons.2 ⟨s21, List.forall_mem_cons.2 ⟨s22, List.forall_mem_cons.2 ⟨s23, List.forall_mem_cons.2 ⟨s24, List.forall_mem_cons.2 ⟨s25, List.forall_mem_cons.2 ⟨s26, List.forall_mem_cons.2 ⟨s27, List.forall_mem_cons.2 ⟨s28, List.forall_mem_cons.2 ⟨s29, List.forall_mem_cons.2 ⟨s30, List.forall_mem_cons.2 ⟨s31, List.forall_mem_cons.2 ⟨s32, List.forall_mem_cons.2 ⟨s33, List.forall_mem_cons.2 ⟨s34, List.forall_mem_cons.2 ⟨s35, List.forall_mem_cons.2 ⟨s36, List.forall_mem_cons.2 ⟨s37, List.forall_mem_cons.2 ⟨s38, List.forall_mem_cons.2 ⟨s39, List.forall_mem_cons.2 ⟨s40, fun x h => nomatch h⟩⟩⟩⟩⟩⟩⟩⟩⟩⟩⟩⟩⟩⟩⟩⟩⟩⟩⟩⟩⟩⟩⟩⟩⟩⟩⟩⟩⟩⟩⟩⟩⟩⟩⟩⟩⟩⟩⟩⟩⟩) rfl) (VRL.cons (show VR _ (AV.sym 0) _ from ⟨a0, rfl, rfl⟩) (VRL.cons (show VR _ (AV.strs 0 2) _ from ⟨rfl, rfl⟩) VRL.nil)) (run_sx (tyOf w)) (by kernel_rfl)
set_option maxRecDepth 100000 in
theorem lifted (os : Os) (started : os.Started) (H : Type) (enc : TypeId × Value → H) :
    ReturnsInHanded {} Tryz.checked os 3 .any (fun w args => (Rows.lawNotesSpec.pre enc Tryz.prog Tryz.f3 [] false w args ∧ laidMetH Tryz.prog Rows.lawNotesRow.laid w) ∧ sizedMet enc Tryz.prog Tryz.f3 (OpenSpec.ofChange Rows.lawNotesSpec) false w args)
      (Rows.lawNotesSpec.post enc Tryz.prog Tryz.f3 false true false false) := by
  refine returnsInHanded_of_change_and (C := Tryz.checked) (X := fun w _ => laidMetH Tryz.prog Rows.lawNotesRow.laid w) (fun _ _ _ hh h => h.of_heap hh) own started (by kernel_rfl) Tryz.func3
    (ChangeSpec.witness_at (enc := enc) (C := Tryz.checked) (X := fun w _ => laidMetH Tryz.prog Rows.lawNotesRow.laid w) false (World.laidAll Tryz.prog os Rows.lawNotesRow.laid) #[.int .i64 0, .string ByteArray.empty] 8 (World.laidAll_os _ _ _) (by kernel_rfl) (by kernel_rfl) (by kernel_rfl) (by kernel_rfl) (by kernel_rfl)
      (by rw [MakeChecks.laidMetH_plain _ _ _ (by kernel_rfl)]; exact laidMet_laidAll _ (by kernel_rfl) (by kernel_rfl))) ?_
  intro W base args ds gs before hval0 hW _ _ hL _
  have hval : ∀ (j : Nat) t v, Tryz.f3.params[j]? = some t → args[j]? = some v → Value.okWide Tryz.prog W .any base t v := hval0
  have hW' := hW
  obtain ⟨p, q, hA0, hV, rfl, hfz, hnd⟩ := hW
  have hA : DataW.TrodAll enc Tryz.prog W 0 (fun _ => true) true Tryz.f3.params.toList args.toList ds p := hA0
  rw [Tryz.params3] at hA hval
  obtain ⟨v0, vs0, d0, ds0, p0, q0, hargs, rfl, rfl, h0, r0⟩ := trodAll_cons hA
  obtain ⟨v1, vs1, d1, ds1, p1, q1, rfl, rfl, rfl, h1, r1⟩ := trodAll_cons r0
  obtain ⟨rfl, rfl, rfl⟩ := trodAll_nil r1
  obtain rfl : args = #[v0, v1] := by cases args; simp_all
  obtain ⟨rfl, rfl⟩ := trodVars_none hV
  obtain ⟨a0, rfl, rfl, rfl, w0⟩ := open_int Tryz.underlying3 (hval 0 3 v0 rfl rfl) h0
  obtain ⟨a1, rfl, rfl, rfl, w1⟩ := ChangeMaps.open_string Tryz.underlying9 (hval 1 9 v1 rfl rfl) h1
  clear hA0 hval0
  simp only [List.append_nil] at hW'
  refine (walk a0 w0 a1 w1 W hL).mono fun e W' ⟨he, bel⟩ => ?_
  subst he
  exact ⟨_, rfl, _, _, _, [], _, [], hW', trodAll_mk1 (shut_bool Tryz.underlying4 _), (trodAll_cons_mk (shut_int Tryz.underlying3 w0) (trodAll_cons_mk (ChangeMaps.shut_string Tryz.underlying9 w1) trodAll_mk0)), rfl, bel.frame _, fun h => by cases h⟩
theorem over : Rows.lawNotesRow.holds Tryz.pinned (OpenSpec.ofChange Rows.lawNotesSpec) :=
  OpenClaim.holds_of_wide 3 Tryz.f3 rfl rfl rfl rfl rfl rfl rfl ⟨rfl, rfl, rfl, rfl, rfl⟩ rfl rfl rfl rfl rfl (by kernel_rfl) Tryz.func3 (by kernel_rfl)
    (of_decide_eq_true (by kernel_rfl)) (by unfold Func.isWrapper; first | (rw [if_pos (by decide +kernel)]; kernel_rfl) | (rw [if_neg (by decide +kernel)]; exact ⟨rfl, rfl⟩))
    (fun os started H enc _ => lifted os started H enc)
end Go.Proofs.YtlnfollgpbcafaaGreatDoor.lawNotes
namespace Go.Proofs.YtlnfollgpbcafaaGreatDoor
open Go
theorem lawNotes_card : Rows.LawNotesCardSaid :=
  Claim7.holds_tied_plain_at .later [] Rows.lawNotesCard.laidKinds true (true, "086a4ffa4729d1fccb2c7c819e85afd19467a464f9a7b46ad02138a9a958927b") false lawNotes.over (fun _ h => by cases h) (by kernel_rfl) (fun _ h => by cases h) lawNotes_row_tie rfl ⟨rfl, rfl⟩ (by kernel_rfl) rfl
    (fun f fn hf hfn => by
      obtain rfl : f = 3 := Option.some.inj ((show Tryz.prog.funcNamed "tithe/tithelaw21.LawNotes" = some 3 by kernel_rfl).symm.trans hf) |>.symm
      obtain rfl : fn = Tryz.f3 := (Option.some.inj (Tryz.func3.symm.trans hfn)).symm
      exact ⟨by kernel_rfl, fun j t ht => by
        rw [Tryz.params3] at ht
        have hm : t ∈ [3, 9] := by simpa using Array.mem_of_getElem? ht
        have hall : ([3, 9].all fun u => !Tryz.prog.wantsStandIn u) = true := by kernel_rfl
        exact (show Tryz.prog.wantsStandIn t = false by simpa using List.all_eq_true.1 hall t hm)⟩)
    (by kernel_rfl)
end Go.Proofs.YtlnfollgpbcafaaGreatDoor
