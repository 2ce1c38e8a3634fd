/- Proved: the card of the statement LawInForce, as it was given, with no condition of ours: whatever the input, the function returns true and its arguments read as before. -/
import Derived.Test.YthfkajaeikhloaaGreatDoorCards
import Derived.Test.YthfkajaeikhloaaGreatDoorTie
import Derived.Test.YthfkajaeikhloaaGreatDoorLawInForceR0
import Derived.Test.YthfkajaeikhloaaGreatDoorLawInForceR1
import Derived.Test.YthfkajaeikhloaaGreatDoorLawInForceR2
import Derived.Test.YthfkajaeikhloaaGreatDoorLawInForceR3
import Derived.Test.YthfkajaeikhloaaGreatDoorLawInForceR4
import Derived.Test.YthfkajaeikhloaaGreatDoorLawInForceR5
import Derived.Test.YthfkajaeikhloaaGreatDoorLawInForceR6
import Derived.Test.YthfkajaeikhloaaGreatDoorLawInForceR7
import Derived.Test.YthfkajaeikhloaaGreatDoorLawInForceC
import Derived.WalkKit
import Derived.ProofKit
import Derived.OpenShut
import Derived.LaidMore
import Derived.Lay
import Derived.LaidOnce
import Derived.SevenTiedAt
import Derived.ChangeSame
import Derived.Below
import Derived.Handed
namespace Go.Proofs.YthfkajaeikhloaaGreatDoor.lawInForce
open Go Go.Proofs.YthfkajaeikhloaaGreatDoor.Xq Go.ChangeShapes Go.WideShapes Go.ChangeAt Go.RowKit
set_option linter.unusedVariables false
theorem own : ownKnob Tryz.prog.godebug = none := by kernel_rfl
theorem laidOut : laidOutB Tryz.prog = true := by kernel_rfl
theorem size : Nat.ble Tryz.prog.globals.size 1000 = true := by kernel_rfl
theorem size5 : Nat.ble Tryz.prog.globals.size 500 = true := by kernel_rfl
theorem errT : errTOk Tryz.prog 276 = true := by kernel_rfl
theorem walk (a0 : Int) (w0 : (Lit.int .i64 a0).wf = true) (a1 : Int) (w1 : (Lit.int .i64 a1).wf = true) (a2 : Int) (w2 : (Lit.int .i64 a2).wf = true) (w : World) (hL : laidMetH Tryz.prog Rows.lawInForceRow.laid w) :
    Calls Tryz.prog 3 #[.int .i64 a0, .int .i64 a1, .int .i64 a2] w fun e w' => e = .returned (.bool true) ∧ Below w.heap.size w w' := by
  rw [MakeChecks.laidMetH_plain _ _ _ (by kernel_rfl)] at hL
  have ir := range64 w0
  have hr : -4 < a0.tmod 4 ∧ a0.tmod 4 < 4 := ⟨Int.lt_tmod_of_pos a0 (by decide), Int.tmod_lt_of_pos a0 (by decide)⟩
  by_cases c0 : a0.tmod 4 = -3
  · exact law_of_run1 (σ := σI a0 a1 a2 (-3)) (ς := fun _ => ByteArray.empty) (by kernel_rfl) smSgok (Nat.le_of_ble_eq_true size5) (by rw [← gls_eq]; exact laid_all1 size5 errT hL) (syI_ok ir (range64 w1) (range64 w2) (by decide) c0 rfl) (VRL.cons (show VR _ (AV.sym 0) _ from ⟨a0, rfl, rfl⟩) (VRL.cons (show VR _ (AV.sym 1) _ from ⟨a1, rfl, rfl⟩) (VRL.cons (show VR _ (AV.sym 2) _ from ⟨a2, rfl, rfl⟩) VRL.nil))) (run_r0 (tyOf w)) (by kernel_rfl)
  by_cases c1 : a0.tmod 4 = -2
  · exact law_of_run1 (σ := σI a0 a1 a2 (-2)) (ς := fun _ => ByteArray.empty) (by kernel_rfl) smSgok (Nat.le_of_ble_eq_true size5) (by rw [← gls_eq]; exact laid_all1 size5 errT hL) (syI_ok ir (range64 w1) (range64 w2) (by decide) c1 rfl) (VRL.cons (show VR _ (AV.sym 0) _ from ⟨a0, rfl, rfl⟩) (VRL.cons (show VR _ (AV.sym 1) _ from ⟨a1, rfl, rfl⟩) (VRL.cons (show VR _ (AV.sym 2) _ from ⟨a2, rfl, rfl⟩) VRL.nil))) (run_r1 (tyOf w)) (by kernel_rfl)
  by_cases c2 : a0.tmod 4 = -1
  · exact law_of_run1 (σ := σI a0 a1 a2 (-1)) (ς := fun _ => ByteArray.empty) (by kernel_rfl) smSgok (Nat.le_of_ble_eq_true size5) (by rw [← gls_eq]; exact laid_all1 size5 errT hL) (syI_ok ir (range64 w1) (range64 w2) (by decide) c2 rfl) (VRL.cons (show VR _ (AV.sym 0) _ from ⟨a0, rfl, rfl⟩) (VRL.cons (show VR _ (AV.sym 1) _ from ⟨a1, rfl, rfl⟩) (VRL.cons (show VR _ (AV.sym 2) _ from ⟨a2, rfl, rfl⟩) VRL.nil))) (run_r2 (tyOf w)) (by kernel_rfl)
  by_cases c3 : a0.tmod 4 = 0
  · exact law_of_run1 (σ := σI a0 a1 a2 (0)) (ς := fun _ => ByteArray.empty) (by kernel_rfl) smSgok (Nat.le_of_ble_eq_true size5) (by rw [← gls_eq]; exact laid_all1 size5 errT hL) (syI_ok ir (range64 w1) (range64 w2) (by decide) c3 rfl) (VRL.cons (show VR _ (AV.sym 0) _ from ⟨a0, rfl, rfl⟩) (VRL.cons (show VR _ (AV.sym 1) _ from ⟨a1, rfl, rfl⟩) (VRL.cons (show VR _ (AV.sym 2) _ from ⟨a2, rfl, rfl⟩) VRL.nil))) (run_r3 (tyOf w)) (by kernel_rfl)
  by_cases c4 : a0.tmod 4 = 1
  · exact law_of_run1 (σ := σI a0 a1 a2 (1)) (ς := fun _ => ByteArray.empty) (by kernel_rfl) smSgok (Nat.le_of_ble_eq_true size5) (by rw [← gls_eq]; exact laid_all1 size5 errT hL) (syI_ok ir (range64 w1) (range64 w2) (by decide) c4 rfl) (VRL.cons (show VR _ (AV.sym 0) _ from ⟨a0, rfl, rfl⟩) (VRL.cons (show VR _ (AV.sym 1) _ from ⟨a1, rfl, rfl⟩) (VRL.cons (show VR _ (AV.sym 2) _ from ⟨a2, rfl, rfl⟩) VRL.nil))) (run_r4 (tyOf w)) (by kernel_rfl)
  by_cases c5 : a0.tmod 4 = 2
  · exact law_of_run1 (σ := σI a0 a1 a2 (2)) (ς := fun _ => ByteArray.empty) (by kernel_rfl) smSgok (Nat.le_of_ble_eq_true size5) (by rw [← gls_eq]; exact laid_all1 size5 errT hL) (syI_ok ir (range64 w1) (range64 w2) (by decide) c5 rfl) (VRL.cons (show VR _ (AV.sym 0) _ from ⟨a0, rfl, rfl⟩) (VRL.cons (show VR _ (AV.sym 1) _ from ⟨a1, rfl, rfl⟩) (VRL.cons (show VR _ (AV.sym 2) _ from ⟨a2, rfl, rfl⟩) VRL.nil))) (run_r5 (tyOf w)) (by kernel_rfl)
  by_cases c6 : a0.tmod 4 = 3
  · exact law_of_run1 (σ := σI a0 a1 a2 (3)) (ς := fun _ => ByteArray.empty) (by kernel_rfl) smSgok (Nat.le_of_ble_eq_true size5) (by rw [← gls_eq]; exact laid_all1 size5 errT hL) (syI_ok ir (range64 w1) (range64 w2) (by decide) c6 rfl) (VRL.cons (show VR _ (AV.sym 0) _ from ⟨a0, rfl, rfl⟩) (VRL.cons (show VR _ (AV.sym 1) _ from ⟨a1, rfl, rfl⟩) (VRL.cons (show VR _ (AV.sym 2) _ from ⟨a2, rfl, rfl⟩) VRL.nil))) (run_r6 (tyOf w)) (by kernel_rfl)
  omega
set_option maxRecDepth 100000 in
theorem lifted (os : Os) (started : os.Started) (H : Type) (enc : TypeId × Value → H) :
    ReturnsInHanded {} Tryz.checked os 3 .any (fun w args => (Rows.lawInForceSpec.pre enc Tryz.prog Tryz.f3 [] false w args ∧ laidMetH Tryz.prog Rows.lawInForceRow.laid w) ∧ sizedMet enc Tryz.prog Tryz.f3 (OpenSpec.ofChange Rows.lawInForceSpec) false w args)
      (Rows.lawInForceSpec.post enc Tryz.prog Tryz.f3 false true false false) := by
  refine returnsInHanded_of_change_and (C := Tryz.checked) (X := fun w _ => laidMetH Tryz.prog Rows.lawInForceRow.laid w) (fun _ _ _ hh h => h.of_heap hh) own started (by kernel_rfl) Tryz.func3
    (ChangeSpec.witness_at (enc := enc) (C := Tryz.checked) (X := fun w _ => laidMetH Tryz.prog Rows.lawInForceRow.laid w) false (World.laidAll Tryz.prog os Rows.lawInForceRow.laid) #[.int .i64 0, .int .i64 0, .int .i64 0] 8 (World.laidAll_os _ _ _) (by kernel_rfl) (by kernel_rfl) (by kernel_rfl) (by kernel_rfl) (by kernel_rfl)
      (by rw [MakeChecks.laidMetH_plain _ _ _ (by kernel_rfl)]; exact laidMet_laidAll _ (by kernel_rfl) (by kernel_rfl))) ?_
  intro W base args ds gs before hval0 hW _ _ hL _
  have hval : ∀ (j : Nat) t v, Tryz.f3.params[j]? = some t → args[j]? = some v → Value.okWide Tryz.prog W .any base t v := hval0
  have hW' := hW
  obtain ⟨p, q, hA0, hV, rfl, hfz, hnd⟩ := hW
  have hA : DataW.TrodAll enc Tryz.prog W 0 (fun _ => true) true Tryz.f3.params.toList args.toList ds p := hA0
  rw [Tryz.params3] at hA hval
  obtain ⟨v0, vs0, d0, ds0, p0, q0, hargs, rfl, rfl, h0, r0⟩ := trodAll_cons hA
  obtain ⟨v1, vs1, d1, ds1, p1, q1, rfl, rfl, rfl, h1, r1⟩ := trodAll_cons r0
  obtain ⟨v2, vs2, d2, ds2, p2, q2, rfl, rfl, rfl, h2, r2⟩ := trodAll_cons r1
  obtain ⟨rfl, rfl, rfl⟩ := trodAll_nil r2
  obtain rfl : args = #[v0, v1, v2] := by cases args; simp_all
  obtain ⟨rfl, rfl⟩ := trodVars_none hV
  obtain ⟨a0, rfl, rfl, rfl, w0⟩ := open_int Tryz.underlying3 (hval 0 3 v0 rfl rfl) h0
  obtain ⟨a1, rfl, rfl, rfl, w1⟩ := open_int Tryz.underlying3 (hval 1 3 v1 rfl rfl) h1
  obtain ⟨a2, rfl, rfl, rfl, w2⟩ := open_int Tryz.underlying3 (hval 2 3 v2 rfl rfl) h2
  clear hA0 hval0
  simp only [List.append_nil] at hW'
  refine (walk a0 w0 a1 w1 a2 w2 W hL).mono fun e W' ⟨he, bel⟩ => ?_
  subst he
  exact ⟨_, rfl, _, _, _, [], _, [], hW', trodAll_mk1 (shut_bool Tryz.underlying4 _), (trodAll_cons_mk (shut_int Tryz.underlying3 w0) (trodAll_cons_mk (shut_int Tryz.underlying3 w1) (trodAll_cons_mk (shut_int Tryz.underlying3 w2) trodAll_mk0))), rfl, bel.frame _, fun h => by cases h⟩
theorem over : Rows.lawInForceRow.holds Tryz.pinned (OpenSpec.ofChange Rows.lawInForceSpec) :=
  OpenClaim.holds_of_wide 3 Tryz.f3 rfl rfl rfl rfl rfl rfl rfl ⟨rfl, rfl, rfl, rfl, rfl⟩ rfl rfl rfl rfl rfl (by kernel_rfl) Tryz.func3 facts
    (of_decide_eq_true (by kernel_rfl)) (by unfold Func.isWrapper; first | (rw [if_pos (by decide +kernel)]; kernel_rfl) | (rw [if_neg (by decide +kernel)]; exact ⟨rfl, rfl⟩))
    (fun os started H enc _ => lifted os started H enc)
end Go.Proofs.YthfkajaeikhloaaGreatDoor.lawInForce
namespace Go.Proofs.YthfkajaeikhloaaGreatDoor
open Go
theorem lawInForce_card : Rows.LawInForceCardSaid :=
  Claim7.holds_tied_plain_at .later [] Rows.lawInForceCard.laidKinds true (true, "ff4d4563ad477594a54927f1a3c56fed84589efa9411a470d0c1957cfc496e20") true lawInForce.over (fun _ h => by cases h) (by kernel_rfl) (fun _ h => by cases h) lawInForce_row_tie rfl ⟨rfl, rfl⟩ (by kernel_rfl) rfl
    (fun f fn hf hfn => by
      obtain rfl : f = 3 := Option.some.inj ((show Tryz.prog.funcNamed "tithe/tithelaw21.LawInForce" = some 3 by kernel_rfl).symm.trans hf) |>.symm
      obtain rfl : fn = Tryz.f3 := (Option.some.inj (Tryz.func3.symm.trans hfn)).symm
      exact ⟨by kernel_rfl, fun j t ht => by
        rw [Tryz.params3] at ht
        have hm : t ∈ [3, 3, 3] := by simpa using Array.mem_of_getElem? ht
        have hall : ([3, 3, 3].all fun u => !Tryz.prog.wantsStandIn u) = true := by kernel_rfl
        exact (show Tryz.prog.wantsStandIn t = false by simpa using List.all_eq_true.1 hall t hm)⟩)
    (by kernel_rfl)
end Go.Proofs.YthfkajaeikhloaaGreatDoor
