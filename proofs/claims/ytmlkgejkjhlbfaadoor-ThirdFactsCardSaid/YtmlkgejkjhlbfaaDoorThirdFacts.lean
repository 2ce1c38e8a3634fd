/- Proved: the card of the statement ThirdFacts, as it was given, with no condition of ours: whatever the input, the function returns true and its arguments read as before. -/
import Derived.Test.YtmlkgejkjhlbfaaDoorCards
import Derived.Test.YtmlkgejkjhlbfaaDoorTie
import Derived.Test.YtmlkgejkjhlbfaaDoorThirdFactsR0
import Derived.Test.YtmlkgejkjhlbfaaDoorThirdFactsR1
import Derived.Test.YtmlkgejkjhlbfaaDoorThirdFactsR2
import Derived.WalkKit
import Derived.ProofKit
import Derived.OpenShut
import Derived.LaidMore
import Derived.Lay
import Derived.LaidOnce
import Derived.SevenTiedAt
import Derived.ChangeSame
import Derived.Below
import Derived.Handed
import Derived.ChangeMaps5
namespace Go.Proofs.YtmlkgejkjhlbfaaDoor.thirdFacts
open Go Go.Proofs.YtmlkgejkjhlbfaaDoor.Xq Go.ChangeShapes Go.WideShapes Go.ChangeAt Go.RowKit
set_option linter.unusedVariables false
theorem own : ownKnob Tryd.prog.godebug = none := by kernel_rfl
theorem laidOut : laidOutB Tryd.prog = true := by kernel_rfl
theorem size : Nat.ble Tryd.prog.globals.size 1000 = true := by kernel_rfl
theorem walk (a0 : ByteArray) (w0 : a0.size ≤ maxLen) (a1 : Int) (w1 : (Lit.int .i64 a1).wf = true) (w : World) (hL : laidMetH Tryd.prog Rows.thirdFactsRow.laid w) :
    Calls Tryd.prog 11 #[.string a0, .int .i64 a1] w fun e w' => e = .returned (.bool true) ∧ Below w.heap.size w w' := by
  rw [MakeChecks.laidMetH_plain _ _ _ (by kernel_rfl)] at hL
  have ir := range64 w1
  by_cases c0 : a1 = 0
  · subst c0
    exact law_of_run (σ := σ2 0 0 a0.size) (ς := fun _ => a0) (by kernel_rfl) smSeok (Nat.le_of_ble_eq_true size) (by rw [← gls_eq]; exact laid_all hL) (syC_ok (f := .excl []) (by decide) (by decide) (Nat.le_trans w0 (by decide)) (fun x h => nomatch h) rfl) (VRL.cons (show VR _ (AV.strs 0 2) _ from ⟨rfl, rfl⟩) (VRL.cons (show VR _ (AV.int .i64 (0)) _ from rfl) VRL.nil)) (run_i0 (tyOf w))
  by_cases c1 : a1 = 1
  · subst c1
    exact law_of_run (σ := σ2 1 0 a0.size) (ς := fun _ => a0) (by kernel_rfl) smSeok (Nat.le_of_ble_eq_true size) (by rw [← gls_eq]; exact laid_all hL) (syC_ok (f := .excl []) (by decide) (by decide) (Nat.le_trans w0 (by decide)) (fun x h => nomatch h) rfl) (VRL.cons (show VR _ (AV.strs 0 2) _ from ⟨rfl, rfl⟩) (VRL.cons (show VR _ (AV.int .i64 (1)) _ from rfl) VRL.nil)) (run_i1 (tyOf w))
  by_cases c2 : a1 = 2
  · subst c2
    exact law_of_run (σ := σ2 2 0 a0.size) (ς := fun _ => a0) (by kernel_rfl) smSeok (Nat.le_of_ble_eq_true size) (by rw [← gls_eq]; exact laid_all hL) (syC_ok (f := .excl []) (by decide) (by decide) (Nat.le_trans w0 (by decide)) (fun x h => nomatch h) rfl) (VRL.cons (show VR _ (AV.strs 0 2) _ from ⟨rfl, rfl⟩) (VRL.cons (show VR _ (AV.int .i64 (2)) _ from rfl) VRL.nil)) (run_i2 (tyOf w))
  by_cases c3 : a1 = 3
  · subst c3
    exact law_of_run (σ := σ2 3 0 a0.size) (ς := fun _ => a0) (by kernel_rfl) smSeok (Nat.le_of_ble_eq_true size) (by rw [← gls_eq]; exact laid_all hL) (syC_ok (f := .excl []) (by decide) (by decide) (Nat.le_trans w0 (by decide)) (fun x h => nomatch h) rfl) (VRL.cons (show VR _ (AV.strs 0 2) _ from ⟨rfl, rfl⟩) (VRL.cons (show VR _ (AV.int .i64 (3)) _ from rfl) VRL.nil)) (run_i3 (tyOf w))
  by_cases c4 : a1 = 4
  · subst c4
    exact law_of_run (σ := σ2 4 0 a0.size) (ς := fun _ => a0) (by kernel_rfl) smSeok (Nat.le_of_ble_eq_true size) (by rw [← gls_eq]; exact laid_all hL) (syC_ok (f := .excl []) (by decide) (by decide) (Nat.le_trans w0 (by decide)) (fun x h => nomatch h) rfl) (VRL.cons (show VR _ (AV.strs 0 2) _ from ⟨rfl, rfl⟩) (VRL.cons (show VR _ (AV.int .i64 (4)) _ from rfl) VRL.nil)) (run_i4 (tyOf w))
  by_cases c5 : a1 = 5
  · subst c5
    exact law_of_run (σ := σ2 5 0 a0.size) (ς := fun _ => a0) (by kernel_rfl) smSeok (Nat.le_of_ble_eq_true size) (by rw [← gls_eq]; exact laid_all hL) (syC_ok (f := .excl []) (by decide) (by decide) (Nat.le_trans w0 (by decide)) (fun x h => nomatch h) rfl) (VRL.cons (show VR _ (AV.strs 0 2) _ from ⟨rfl, rfl⟩) (VRL.cons (show VR _ (AV.int .i64 (5)) _ from rfl) VRL.nil)) (run_i5 (tyOf w))
  by_cases cl : a1 < 0
  · have ih : (-9223372036854775808 : Int) ≤ a1 ∧ a1 ≤ -1 := by omega
    exact law_of_run (σ := σ2 a1 0 a0.size) (ς := fun _ => a0) (by kernel_rfl) smSeok (Nat.le_of_ble_eq_true size) (by rw [← gls_eq]; exact laid_all hL) (syC_ok (f := .excl []) ih (by decide) (Nat.le_trans w0 (by decide)) (fun x h => nomatch h) rfl) (VRL.cons (show VR _ (AV.strs 0 2) _ from ⟨rfl, rfl⟩) (VRL.cons (show VR _ (AV.sym 0) _ from ⟨a1, rfl, rfl⟩) VRL.nil)) (run_il (tyOf w))
  have ih : (6 : Int) ≤ a1 ∧ a1 ≤ 9223372036854775807 := by omega
  exact law_of_run (σ := σ2 a1 0 a0.size) (ς := fun _ => a0) (by kernel_rfl) smSeok (Nat.le_of_ble_eq_true size) (by rw [← gls_eq]; exact laid_all hL) (syC_ok (f := .excl []) ih (by decide) (Nat.le_trans w0 (by decide)) (fun x h => nomatch h) rfl) (VRL.cons (show VR _ (AV.strs 0 2) _ from ⟨rfl, rfl⟩) (VRL.cons (show VR _ (AV.sym 0) _ from ⟨a1, rfl, rfl⟩) VRL.nil)) (run_ih (tyOf w))
set_option maxRecDepth 100000 in
theorem lifted (os : Os) (started : os.Started) (H : Type) (enc : TypeId × Value → H) :
    ReturnsInHanded {} Tryd.checked os 11 .any (fun w args => (Rows.thirdFactsSpec.pre enc Tryd.prog Tryd.f11 [] false w args ∧ laidMetH Tryd.prog Rows.thirdFactsRow.laid w) ∧ sizedMet enc Tryd.prog Tryd.f11 (OpenSpec.ofChange Rows.thirdFactsSpec) false w args)
      (Rows.thirdFactsSpec.post enc Tryd.prog Tryd.f11 false true false false) := by
  refine returnsInHanded_of_change_and (C := Tryd.checked) (X := fun w _ => laidMetH Tryd.prog Rows.thirdFactsRow.laid w) (fun _ _ _ hh h => h.of_heap hh) own started (by kernel_rfl) Tryd.func11
    (ChangeSpec.witness_at (enc := enc) (C := Tryd.checked) (X := fun w _ => laidMetH Tryd.prog Rows.thirdFactsRow.laid w) false (World.laidAll Tryd.prog os Rows.thirdFactsRow.laid) #[.string ByteArray.empty, .int .i64 0] 8 (World.laidAll_os _ _ _) (by kernel_rfl) (by kernel_rfl) (by kernel_rfl) (by kernel_rfl) (by kernel_rfl)
      (by rw [MakeChecks.laidMetH_plain _ _ _ (by kernel_rfl)]; exact laidMet_laidAll _ (by kernel_rfl) (by kernel_rfl))) ?_
  intro W base args ds gs before hval0 hW _ _ hL _
  have hval : ∀ (j : Nat) t v, Tryd.f11.params[j]? = some t → args[j]? = some v → Value.okWide Tryd.prog W .any base t v := hval0
  have hW' := hW
  obtain ⟨p, q, hA0, hV, rfl, hfz, hnd⟩ := hW
  have hA : DataW.TrodAll enc Tryd.prog W 0 (fun _ => true) true Tryd.f11.params.toList args.toList ds p := hA0
  rw [Tryd.params11] at hA hval
  obtain ⟨v0, vs0, d0, ds0, p0, q0, hargs, rfl, rfl, h0, r0⟩ := trodAll_cons hA
  obtain ⟨v1, vs1, d1, ds1, p1, q1, rfl, rfl, rfl, h1, r1⟩ := trodAll_cons r0
  obtain ⟨rfl, rfl, rfl⟩ := trodAll_nil r1
  obtain rfl : args = #[v0, v1] := by cases args; simp_all
  obtain ⟨rfl, rfl⟩ := trodVars_none hV
  obtain ⟨a0, rfl, rfl, rfl, w0⟩ := ChangeMaps.open_string Tryd.underlying9 (hval 0 9 v0 rfl rfl) h0
  obtain ⟨a1, rfl, rfl, rfl, w1⟩ := open_int Tryd.underlying3 (hval 1 3 v1 rfl rfl) h1
  clear hA0 hval0
  simp only [List.append_nil] at hW'
  refine (walk a0 w0 a1 w1 W hL).mono fun e W' ⟨he, bel⟩ => ?_
  subst he
  exact ⟨_, rfl, _, _, _, [], _, [], hW', trodAll_mk1 (shut_bool Tryd.underlying4 _), (trodAll_cons_mk (ChangeMaps.shut_string Tryd.underlying9 w0) (trodAll_cons_mk (shut_int Tryd.underlying3 w1) trodAll_mk0)), rfl, bel.frame _, fun h => by cases h⟩
theorem over : Rows.thirdFactsRow.holds Tryd.pinned (OpenSpec.ofChange Rows.thirdFactsSpec) :=
  OpenClaim.holds_of_wide 11 Tryd.f11 rfl rfl rfl rfl rfl rfl rfl ⟨rfl, rfl, rfl, rfl, rfl⟩ rfl rfl rfl rfl rfl (by kernel_rfl) Tryd.func11 (by kernel_rfl)
    (of_decide_eq_true (by kernel_rfl)) (by unfold Func.isWrapper; first | (rw [if_pos (by decide +kernel)]; kernel_rfl) | (rw [if_neg (by decide +kernel)]; exact ⟨rfl, rfl⟩))
    (fun os started H enc _ => lifted os started H enc)
end Go.Proofs.YtmlkgejkjhlbfaaDoor.thirdFacts
namespace Go.Proofs.YtmlkgejkjhlbfaaDoor
open Go
theorem thirdFacts_card : Rows.ThirdFactsCardSaid :=
  Claim7.holds_tied_plain_at .later [] [.sentinel, .sentinel, .sentinel, .data, .data, .data, .data, .data, .data, .data, .data, .data, .data, .data, .data, .data, .data, .data, .data] true (true, "aab9991ad7d7dcc8eca72fb037dd71bb39e01984d0ba781c653536bef639e98a") false thirdFacts.over (fun _ h => by cases h) (by kernel_rfl) (fun _ h => by cases h) thirdFacts_row_tie rfl ⟨rfl, rfl⟩ (by kernel_rfl) rfl
    (fun f fn hf hfn => by
      obtain rfl : f = 11 := Option.some.inj ((show Tryd.prog.funcNamed "tithe/tithelaw19.ThirdFacts" = some 11 by kernel_rfl).symm.trans hf) |>.symm
      obtain rfl : fn = Tryd.f11 := (Option.some.inj (Tryd.func11.symm.trans hfn)).symm
      exact ⟨by kernel_rfl, fun j t ht => by
        rw [Tryd.params11] at ht
        have hm : t ∈ [9, 3] := by simpa using Array.mem_of_getElem? ht
        have hall : ([9, 3].all fun u => !Tryd.prog.wantsStandIn u) = true := by kernel_rfl
        exact (show Tryd.prog.wantsStandIn t = false by simpa using List.all_eq_true.1 hall t hm)⟩)
    (by kernel_rfl)
end Go.Proofs.YtmlkgejkjhlbfaaDoor
