/- Proved: the card of the statement LawEach, as it was given, with no condition of ours: whatever the input, the function returns true and its arguments read as before. -/
import Derived.Test.YthfkajaeikhloaaGreatDoorCards
import Derived.Test.YthfkajaeikhloaaGreatDoorTie
import Derived.Test.YthfkajaeikhloaaGreatDoorLawEachR0
import Derived.Test.YthfkajaeikhloaaGreatDoorLawEachR1
import Derived.Test.YthfkajaeikhloaaGreatDoorLawEachR2
import Derived.Test.YthfkajaeikhloaaGreatDoorLawEachR3
import Derived.Test.YthfkajaeikhloaaGreatDoorLawEachR4
import Derived.Test.YthfkajaeikhloaaGreatDoorLawEachR5
import Derived.Test.YthfkajaeikhloaaGreatDoorLawEachR6
import Derived.Test.YthfkajaeikhloaaGreatDoorLawEachC
import Derived.WalkKit
import Derived.ProofKit
import Derived.OpenShut
import Derived.LaidMore
import Derived.Lay
import Derived.LaidOnce
import Derived.SevenTiedAt
import Derived.ChangeSame
import Derived.Below
import Derived.Handed
namespace Go.Proofs.YthfkajaeikhloaaGreatDoor.lawEach
open Go Go.Proofs.YthfkajaeikhloaaGreatDoor.Xq Go.ChangeShapes Go.WideShapes Go.ChangeAt Go.RowKit
set_option linter.unusedVariables false
theorem own : ownKnob Tryz.prog.godebug = none := by kernel_rfl
theorem laidOut : laidOutB Tryz.prog = true := by kernel_rfl
theorem size : Nat.ble Tryz.prog.globals.size 1000 = true := by kernel_rfl
theorem size5 : Nat.ble Tryz.prog.globals.size 500 = true := by kernel_rfl
theorem errT : errTOk Tryz.prog 276 = true := by kernel_rfl
theorem walk (a0 : Int) (w0 : (Lit.int .i64 a0).wf = true) (w : World) (hL : laidMetH Tryz.prog Rows.lawEachRow.laid w) :
    Calls Tryz.prog 5 #[.int .i64 a0] w fun e w' => e = .returned (.bool true) ∧ Below w.heap.size w w' := by
  rw [MakeChecks.laidMetH_plain _ _ _ (by kernel_rfl)] at hL
  have ir := range64 w0
  by_cases c1 : a0 = 1
  · subst c1
    exact law_of_run1 (σ := σ2 1 0 0) (ς := fun _ => ByteArray.empty) (by kernel_rfl) smSgok (Nat.le_of_ble_eq_true size5) (by rw [← gls_eq]; exact laid_all1 size5 errT hL) (syC_ok (f := .excl []) (by decide) (by decide) (Nat.zero_le _) (fun x h => nomatch h) rfl) (VRL.cons (show VR _ (AV.int .i64 (1)) _ from rfl) VRL.nil) (run_i1 (tyOf w)) (by kernel_rfl)
  by_cases c2 : a0 = 2
  · subst c2
    exact law_of_run1 (σ := σ2 2 0 0) (ς := fun _ => ByteArray.empty) (by kernel_rfl) smSgok (Nat.le_of_ble_eq_true size5) (by rw [← gls_eq]; exact laid_all1 size5 errT hL) (syC_ok (f := .excl []) (by decide) (by decide) (Nat.zero_le _) (fun x h => nomatch h) rfl) (VRL.cons (show VR _ (AV.int .i64 (2)) _ from rfl) VRL.nil) (run_i2 (tyOf w)) (by kernel_rfl)
  by_cases c3 : a0 = 3
  · subst c3
    exact law_of_run1 (σ := σ2 3 0 0) (ς := fun _ => ByteArray.empty) (by kernel_rfl) smSgok (Nat.le_of_ble_eq_true size5) (by rw [← gls_eq]; exact laid_all1 size5 errT hL) (syC_ok (f := .excl []) (by decide) (by decide) (Nat.zero_le _) (fun x h => nomatch h) rfl) (VRL.cons (show VR _ (AV.int .i64 (3)) _ from rfl) VRL.nil) (run_i3 (tyOf w)) (by kernel_rfl)
  by_cases c4 : a0 = 4
  · subst c4
    exact law_of_run1 (σ := σ2 4 0 0) (ς := fun _ => ByteArray.empty) (by kernel_rfl) smSgok (Nat.le_of_ble_eq_true size5) (by rw [← gls_eq]; exact laid_all1 size5 errT hL) (syC_ok (f := .excl []) (by decide) (by decide) (Nat.zero_le _) (fun x h => nomatch h) rfl) (VRL.cons (show VR _ (AV.int .i64 (4)) _ from rfl) VRL.nil) (run_i4 (tyOf w)) (by kernel_rfl)
  by_cases cl : a0 < 1
  · have ih : (-9223372036854775808 : Int) ≤ a0 ∧ a0 ≤ 0 := by omega
    exact law_of_run1 (σ := σ2 a0 0 0) (ς := fun _ => ByteArray.empty) (by kernel_rfl) smSgok (Nat.le_of_ble_eq_true size5) (by rw [← gls_eq]; exact laid_all1 size5 errT hL) (syC_ok (f := .excl []) ih (by decide) (Nat.zero_le _) (fun x h => nomatch h) rfl) (VRL.cons (show VR _ (AV.sym 0) _ from ⟨a0, rfl, rfl⟩) VRL.nil) (run_il (tyOf w)) (by kernel_rfl)
  have ih : (5 : Int) ≤ a0 ∧ a0 ≤ 9223372036854775807 := by omega
  exact law_of_run1 (σ := σ2 a0 0 0) (ς := fun _ => ByteArray.empty) (by kernel_rfl) smSgok (Nat.le_of_ble_eq_true size5) (by rw [← gls_eq]; exact laid_all1 size5 errT hL) (syC_ok (f := .excl []) ih (by decide) (Nat.zero_le _) (fun x h => nomatch h) rfl) (VRL.cons (show VR _ (AV.sym 0) _ from ⟨a0, rfl, rfl⟩) VRL.nil) (run_ih (tyOf w)) (by kernel_rfl)
set_option maxRecDepth 100000 in
theorem lifted (os : Os) (started : os.Started) (H : Type) (enc : TypeId × Value → H) :
    ReturnsInHanded {} Tryz.checked os 5 .any (fun w args => (Rows.lawEachSpec.pre enc Tryz.prog Tryz.f5 [] false w args ∧ laidMetH Tryz.prog Rows.lawEachRow.laid w) ∧ sizedMet enc Tryz.prog Tryz.f5 (OpenSpec.ofChange Rows.lawEachSpec) false w args)
      (Rows.lawEachSpec.post enc Tryz.prog Tryz.f5 false true false false) := by
  refine returnsInHanded_of_change_and (C := Tryz.checked) (X := fun w _ => laidMetH Tryz.prog Rows.lawEachRow.laid w) (fun _ _ _ hh h => h.of_heap hh) own started (by kernel_rfl) Tryz.func5
    (ChangeSpec.witness_at (enc := enc) (C := Tryz.checked) (X := fun w _ => laidMetH Tryz.prog Rows.lawEachRow.laid w) false (World.laidAll Tryz.prog os Rows.lawEachRow.laid) #[.int .i64 0] 8 (World.laidAll_os _ _ _) (by kernel_rfl) (by kernel_rfl) (by kernel_rfl) (by kernel_rfl) (by kernel_rfl)
      (by rw [MakeChecks.laidMetH_plain _ _ _ (by kernel_rfl)]; exact laidMet_laidAll _ (by kernel_rfl) (by kernel_rfl))) ?_
  intro W base args ds gs before hval0 hW _ _ hL _
  have hval : ∀ (j : Nat) t v, Tryz.f5.params[j]? = some t → args[j]? = some v → Value.okWide Tryz.prog W .any base t v := hval0
  have hW' := hW
  obtain ⟨p, q, hA0, hV, rfl, hfz, hnd⟩ := hW
  have hA : DataW.TrodAll enc Tryz.prog W 0 (fun _ => true) true Tryz.f5.params.toList args.toList ds p := hA0
  rw [Tryz.params5] at hA hval
  obtain ⟨v0, vs0, d0, ds0, p0, q0, hargs, rfl, rfl, h0, r0⟩ := trodAll_cons hA
  obtain ⟨rfl, rfl, rfl⟩ := trodAll_nil r0
  obtain rfl : args = #[v0] := by cases args; simp_all
  obtain ⟨rfl, rfl⟩ := trodVars_none hV
  obtain ⟨a0, rfl, rfl, rfl, w0⟩ := open_int Tryz.underlying3 (hval 0 3 v0 rfl rfl) h0
  clear hA0 hval0
  simp only [List.append_nil] at hW'
  refine (walk a0 w0 W hL).mono fun e W' ⟨he, bel⟩ => ?_
  subst he
  exact ⟨_, rfl, _, _, _, [], _, [], hW', trodAll_mk1 (shut_bool Tryz.underlying4 _), (trodAll_cons_mk (shut_int Tryz.underlying3 w0) trodAll_mk0), rfl, bel.frame _, fun h => by cases h⟩
theorem over : Rows.lawEachRow.holds Tryz.pinned (OpenSpec.ofChange Rows.lawEachSpec) :=
  OpenClaim.holds_of_wide 5 Tryz.f5 rfl rfl rfl rfl rfl rfl rfl ⟨rfl, rfl, rfl, rfl, rfl⟩ rfl rfl rfl rfl rfl (by kernel_rfl) Tryz.func5 facts
    (of_decide_eq_true (by kernel_rfl)) (by unfold Func.isWrapper; first | (rw [if_pos (by decide +kernel)]; kernel_rfl) | (rw [if_neg (by decide +kernel)]; exact ⟨rfl, rfl⟩))
    (fun os started H enc _ => lifted os started H enc)
end Go.Proofs.YthfkajaeikhloaaGreatDoor.lawEach
namespace Go.Proofs.YthfkajaeikhloaaGreatDoor
open Go
theorem lawEach_card : Rows.LawEachCardSaid :=
  Claim7.holds_tied_plain_at .later [] Rows.lawEachCard.laidKinds true (true, "ff4d4563ad477594a54927f1a3c56fed84589efa9411a470d0c1957cfc496e20") true lawEach.over (fun _ h => by cases h) (by kernel_rfl) (fun _ h => by cases h) lawEach_row_tie rfl ⟨rfl, rfl⟩ (by kernel_rfl) rfl
    (fun f fn hf hfn => by
      obtain rfl : f = 5 := Option.some.inj ((show Tryz.prog.funcNamed "tithe/tithelaw21.LawEach" = some 5 by kernel_rfl).symm.trans hf) |>.symm
      obtain rfl : fn = Tryz.f5 := (Option.some.inj (Tryz.func5.symm.trans hfn)).symm
      exact ⟨by kernel_rfl, fun j t ht => by
        rw [Tryz.params5] at ht
        have hm : t ∈ [3] := by simpa using Array.mem_of_getElem? ht
        have hall : ([3].all fun u => !Tryz.prog.wantsStandIn u) = true := by kernel_rfl
        exact (show Tryz.prog.wantsStandIn t = false by simpa using List.all_eq_true.1 hall t hm)⟩)
    (by kernel_rfl)
end Go.Proofs.YthfkajaeikhloaaGreatDoor
