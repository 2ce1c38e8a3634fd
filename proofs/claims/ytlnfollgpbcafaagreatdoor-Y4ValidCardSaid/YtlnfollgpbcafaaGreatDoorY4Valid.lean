/- Proved: the card of the statement Y4Valid, as it was given, with no condition of ours: whatever the input, the function returns true and its arguments read as before. -/
import Derived.Test.YtlnfollgpbcafaaGreatDoorCards
import Derived.Test.YtlnfollgpbcafaaGreatDoorTie
import Derived.Test.YtlnfollgpbcafaaGreatDoorY4ValidR0
import Derived.Test.YtlnfollgpbcafaaGreatDoorY4ValidR1
import Derived.Test.YtlnfollgpbcafaaGreatDoorY4ValidR2
import Derived.WalkKit
import Derived.ProofKit
import Derived.OpenShut
import Derived.LaidMore
import Derived.Lay
import Derived.LaidOnce
import Derived.SevenTiedAt
import Derived.ChangeSame
import Derived.Below
import Derived.Handed
namespace Go.Proofs.YtlnfollgpbcafaaGreatDoor.y4Valid
open Go Go.Proofs.YtlnfollgpbcafaaGreatDoor.Xq Go.ChangeShapes Go.WideShapes Go.ChangeAt Go.RowKit
set_option linter.unusedVariables false
theorem own : ownKnob Tryz.prog.godebug = none := by kernel_rfl
theorem laidOut : laidOutB Tryz.prog = true := by kernel_rfl
theorem size : Nat.ble Tryz.prog.globals.size 1000 = true := by kernel_rfl
theorem walk (a0 : Int) (w0 : (Lit.int .i64 a0).wf = true) (w : World) (hL : laidMetH Tryz.prog Rows.y4ValidRow.laid w) :
    Calls Tryz.prog 5 #[.int .i64 a0] w fun e w' => e = .returned (.bool true) ∧ Below w.heap.size w w' := by
  rw [MakeChecks.laidMetH_plain _ _ _ (by kernel_rfl)] at hL
  have ir := range64 w0
  have hr : -12 < a0.tmod 12 ∧ a0.tmod 12 < 12 := ⟨Int.lt_tmod_of_pos a0 (by decide), Int.tmod_lt_of_pos a0 (by decide)⟩
  by_cases c0 : a0.tmod 12 = -11
  · exact law_of_run (σ := σR a0 0 0 (-11)) (ς := fun _ => ByteArray.empty) (by kernel_rfl) smSdok (Nat.le_of_ble_eq_true size) (by rw [← gls_eq]; exact laid_all size hL) (syR_ok ir (by decide) (Nat.zero_le _) (by decide) c0 rfl) (VRL.cons (show VR _ (AV.sym 0) _ from ⟨a0, rfl, rfl⟩) VRL.nil) (run_r0 (tyOf w)) (by kernel_rfl)
  by_cases c1 : a0.tmod 12 = -10
  · exact law_of_run (σ := σR a0 0 0 (-10)) (ς := fun _ => ByteArray.empty) (by kernel_rfl) smSdok (Nat.le_of_ble_eq_true size) (by rw [← gls_eq]; exact laid_all size hL) (syR_ok ir (by decide) (Nat.zero_le _) (by decide) c1 rfl) (VRL.cons (show VR _ (AV.sym 0) _ from ⟨a0, rfl, rfl⟩) VRL.nil) (run_r1 (tyOf w)) (by kernel_rfl)
  by_cases c2 : a0.tmod 12 = -9
  · exact law_of_run (σ := σR a0 0 0 (-9)) (ς := fun _ => ByteArray.empty) (by kernel_rfl) smSdok (Nat.le_of_ble_eq_true size) (by rw [← gls_eq]; exact laid_all size hL) (syR_ok ir (by decide) (Nat.zero_le _) (by decide) c2 rfl) (VRL.cons (show VR _ (AV.sym 0) _ from ⟨a0, rfl, rfl⟩) VRL.nil) (run_r2 (tyOf w)) (by kernel_rfl)
  by_cases c3 : a0.tmod 12 = -8
  · exact law_of_run (σ := σR a0 0 0 (-8)) (ς := fun _ => ByteArray.empty) (by kernel_rfl) smSdok (Nat.le_of_ble_eq_true size) (by rw [← gls_eq]; exact laid_all size hL) (syR_ok ir (by decide) (Nat.zero_le _) (by decide) c3 rfl) (VRL.cons (show VR _ (AV.sym 0) _ from ⟨a0, rfl, rfl⟩) VRL.nil) (run_r3 (tyOf w)) (by kernel_rfl)
  by_cases c4 : a0.tmod 12 = -7
  · exact law_of_run (σ := σR a0 0 0 (-7)) (ς := fun _ => ByteArray.empty) (by kernel_rfl) smSdok (Nat.le_of_ble_eq_true size) (by rw [← gls_eq]; exact laid_all size hL) (syR_ok ir (by decide) (Nat.zero_le _) (by decide) c4 rfl) (VRL.cons (show VR _ (AV.sym 0) _ from ⟨a0, rfl, rfl⟩) VRL.nil) (run_r4 (tyOf w)) (by kernel_rfl)
  by_cases c5 : a0.tmod 12 = -6
  · exact law_of_run (σ := σR a0 0 0 (-6)) (ς := fun _ => ByteArray.empty) (by kernel_rfl) smSdok (Nat.le_of_ble_eq_true size) (by rw [← gls_eq]; exact laid_all size hL) (syR_ok ir (by decide) (Nat.zero_le _) (by decide) c5 rfl) (VRL.cons (show VR _ (AV.sym 0) _ from ⟨a0, rfl, rfl⟩) VRL.nil) (run_r5 (tyOf w)) (by kernel_rfl)
  by_cases c6 : a0.tmod 12 = -5
  · exact law_of_run (σ := σR a0 0 0 (-5)) (ς := fun _ => ByteArray.empty) (by kernel_rfl) smSdok (Nat.le_of_ble_eq_true size) (by rw [← gls_eq]; exact laid_all size hL) (syR_ok ir (by decide) (Nat.zero_le _) (by decide) c6 rfl) (VRL.cons (show VR _ (AV.sym 0) _ from ⟨a0, rfl, rfl⟩) VRL.nil) (run_r6 (tyOf w)) (by kernel_rfl)
  by_cases c7 : a0.tmod 12 = -4
  · exact law_of_run (σ := σR a0 0 0 (-4)) (ς := fun _ => ByteArray.empty) (by kernel_rfl) smSdok (Nat.le_of_ble_eq_true size) (by rw [← gls_eq]; exact laid_all size hL) (syR_ok ir (by decide) (Nat.zero_le _) (by decide) c7 rfl) (VRL.cons (show VR _ (AV.sym 0) _ from ⟨a0, rfl, rfl⟩) VRL.nil) (run_r7 (tyOf w)) (by kernel_rfl)
  by_cases c8 : a0.tmod 12 = -3
  · exact law_of_run (σ := σR a0 0 0 (-3)) (ς := fun _ => ByteArray.empty) (by kernel_rfl) smSdok (Nat.le_of_ble_eq_true size) (by rw [← gls_eq]; exact laid_all size hL) (syR_ok ir (by decide) (Nat.zero_le _) (by decide) c8 rfl) (VRL.cons (show VR _ (AV.sym 0) _ from ⟨a0, rfl, rfl⟩) VRL.nil) (run_r8 (tyOf w)) (by kernel_rfl)
  by_cases c9 : a0.tmod 12 = -2
  · exact law_of_run (σ := σR a0 0 0 (-2)) (ς := fun _ => ByteArray.empty) (by kernel_rfl) smSdok (Nat.le_of_ble_eq_true size) (by rw [← gls_eq]; exact laid_all size hL) (syR_ok ir (by decide) (Nat.zero_le _) (by decide) c9 rfl) (VRL.cons (show VR _ (AV.sym 0) _ from ⟨a0, rfl, rfl⟩) VRL.nil) (run_r9 (tyOf w)) (by kernel_rfl)
  by_cases c10 : a0.tmod 12 = -1
  · exact law_of_run (σ := σR a0 0 0 (-1)) (ς := fun _ => ByteArray.empty) (by kernel_rfl) smSdok (Nat.le_of_ble_eq_true size) (by rw [← gls_eq]; exact laid_all size hL) (syR_ok ir (by decide) (Nat.zero_le _) (by decide) c10 rfl) (VRL.cons (show VR _ (AV.sym 0) _ from ⟨a0, rfl, rfl⟩) VRL.nil) (run_r10 (tyOf w)) (by kernel_rfl)
  by_cases c11 : a0.tmod 12 = 0
  · exact law_of_run (σ := σR a0 0 0 (0)) (ς := fun _ => ByteArray.empty) (by kernel_rfl) smSdok (Nat.le_of_ble_eq_true size) (by rw [← gls_eq]; exact laid_all size hL) (syR_ok ir (by decide) (Nat.zero_le _) (by decide) c11 rfl) (VRL.cons (show VR _ (AV.sym 0) _ from ⟨a0, rfl, rfl⟩) VRL.nil) (run_r11 (tyOf w)) (by kernel_rfl)
  by_cases c12 : a0.tmod 12 = 1
  · exact law_of_run (σ := σR a0 0 0 (1)) (ς := fun _ => ByteArray.empty) (by kernel_rfl) smSdok (Nat.le_of_ble_eq_true size) (by rw [← gls_eq]; exact laid_all size hL) (syR_ok ir (by decide) (Nat.zero_le _) (by decide) c12 rfl) (VRL.cons (show VR _ (AV.sym 0) _ from ⟨a0, rfl, rfl⟩) VRL.nil) (run_r12 (tyOf w)) (by kernel_rfl)
  by_cases c13 : a0.tmod 12 = 2
  · exact law_of_run (σ := σR a0 0 0 (2)) (ς := fun _ => ByteArray.empty) (by kernel_rfl) smSdok (Nat.le_of_ble_eq_true size) (by rw [← gls_eq]; exact laid_all size hL) (syR_ok ir (by decide) (Nat.zero_le _) (by decide) c13 rfl) (VRL.cons (show VR _ (AV.sym 0) _ from ⟨a0, rfl, rfl⟩) VRL.nil) (run_r13 (tyOf w)) (by kernel_rfl)
  by_cases c14 : a0.tmod 12 = 3
  · exact law_of_run (σ := σR a0 0 0 (3)) (ς := fun _ => ByteArray.empty) (by kernel_rfl) smSdok (Nat.le_of_ble_eq_true size) (by rw [← gls_eq]; exact laid_all size hL) (syR_ok ir (by decide) (Nat.zero_le _) (by decide) c14 rfl) (VRL.cons (show VR _ (AV.sym 0) _ from ⟨a0, rfl, rfl⟩) VRL.nil) (run_r14 (tyOf w)) (by kernel_rfl)
  by_cases c15 : a0.tmod 12 = 4
  · exact law_of_run (σ := σR a0 0 0 (4)) (ς := fun _ => ByteArray.empty) (by kernel_rfl) smSdok (Nat.le_of_ble_eq_true size) (by rw [← gls_eq]; exact laid_all size hL) (syR_ok ir (by decide) (Nat.zero_le _) (by decide) c15 rfl) (VRL.cons (show VR _ (AV.sym 0) _ from ⟨a0, rfl, rfl⟩) VRL.nil) (run_r15 (tyOf w)) (by kernel_rfl)
  by_cases c16 : a0.tmod 12 = 5
  · exact law_of_run (σ := σR a0 0 0 (5)) (ς := fun _ => ByteArray.empty) (by kernel_rfl) smSdok (Nat.le_of_ble_eq_true size) (by rw [← gls_eq]; exact laid_all size hL) (syR_ok ir (by decide) (Nat.zero_le _) (by decide) c16 rfl) (VRL.cons (show VR _ (AV.sym 0) _ from ⟨a0, rfl, rfl⟩) VRL.nil) (run_r16 (tyOf w)) (by kernel_rfl)
  by_cases c17 : a0.tmod 12 = 6
  · exact law_of_run (σ := σR a0 0 0 (6)) (ς := fun _ => ByteArray.empty) (by kernel_rfl) smSdok (Nat.le_of_ble_eq_true size) (by rw [← gls_eq]; exact laid_all size hL) (syR_ok ir (by decide) (Nat.zero_le _) (by decide) c17 rfl) (VRL.cons (show VR _ (AV.sym 0) _ from ⟨a0, rfl, rfl⟩) VRL.nil) (run_r17 (tyOf w)) (by kernel_rfl)
  by_cases c18 : a0.tmod 12 = 7
  · exact law_of_run (σ := σR a0 0 0 (7)) (ς := fun _ => ByteArray.empty) (by kernel_rfl) smSdok (Nat.le_of_ble_eq_true size) (by rw [← gls_eq]; exact laid_all size hL) (syR_ok ir (by decide) (Nat.zero_le _) (by decide) c18 rfl) (VRL.cons (show VR _ (AV.sym 0) _ from ⟨a0, rfl, rfl⟩) VRL.nil) (run_r18 (tyOf w)) (by kernel_rfl)
  by_cases c19 : a0.tmod 12 = 8
  · exact law_of_run (σ := σR a0 0 0 (8)) (ς := fun _ => ByteArray.empty) (by kernel_rfl) smSdok (Nat.le_of_ble_eq_true size) (by rw [← gls_eq]; exact laid_all size hL) (syR_ok ir (by decide) (Nat.zero_le _) (by decide) c19 rfl) (VRL.cons (show VR _ (AV.sym 0) _ from ⟨a0, rfl, rfl⟩) VRL.nil) (run_r19 (tyOf w)) (by kernel_rfl)
  by_cases c20 : a0.tmod 12 = 9
  · exact law_of_run (σ := σR a0 0 0 (9)) (ς := fun _ => ByteArray.empty) (by kernel_rfl) smSdok (Nat.le_of_ble_eq_true size) (by rw [← gls_eq]; exact laid_all size hL) (syR_ok ir (by decide) (Nat.zero_le _) (by decide) c20 rfl) (VRL.cons (show VR _ (AV.sym 0) _ from ⟨a0, rfl, rfl⟩) VRL.nil) (run_r20 (tyOf w)) (by kernel_rfl)
  by_cases c21 : a0.tmod 12 = 10
  · exact law_of_run (σ := σR a0 0 0 (10)) (ς := fun _ => ByteArray.empty) (by kernel_rfl) smSdok (Nat.le_of_ble_eq_true size) (by rw [← gls_eq]; exact laid_all size hL) (syR_ok ir (by decide) (Nat.zero_le _) (by decide) c21 rfl) (VRL.cons (show VR _ (AV.sym 0) _ from ⟨a0, rfl, rfl⟩) VRL.nil) (run_r21 (tyOf w)) (by kernel_rfl)
  by_cases c22 : a0.tmod 12 = 11
  · exact law_of_run (σ := σR a0 0 0 (11)) (ς := fun _ => ByteArray.empty) (by kernel_rfl) smSdok (Nat.le_of_ble_eq_true size) (by rw [← gls_eq]; exact laid_all size hL) (syR_ok ir (by decide) (Nat.zero_le _) (by decide) c22 rfl) (VRL.cons (show VR _ (AV.sym 0) _ from ⟨a0, rfl, rfl⟩) VRL.nil) (run_r22 (tyOf w)) (by kernel_rfl)
  omega
set_option maxRecDepth 100000 in
theorem lifted (os : Os) (started : os.Started) (H : Type) (enc : TypeId × Value → H) :
    ReturnsInHanded {} Tryz.checked os 5 .any (fun w args => (Rows.y4ValidSpec.pre enc Tryz.prog Tryz.f5 [] false w args ∧ laidMetH Tryz.prog Rows.y4ValidRow.laid w) ∧ sizedMet enc Tryz.prog Tryz.f5 (OpenSpec.ofChange Rows.y4ValidSpec) false w args)
      (Rows.y4ValidSpec.post enc Tryz.prog Tryz.f5 false true false false) := by
  refine returnsInHanded_of_change_and (C := Tryz.checked) (X := fun w _ => laidMetH Tryz.prog Rows.y4ValidRow.laid w) (fun _ _ _ hh h => h.of_heap hh) own started (by kernel_rfl) Tryz.func5
    (ChangeSpec.witness_at (enc := enc) (C := Tryz.checked) (X := fun w _ => laidMetH Tryz.prog Rows.y4ValidRow.laid w) false (World.laidAll Tryz.prog os Rows.y4ValidRow.laid) #[.int .i64 0] 8 (World.laidAll_os _ _ _) (by kernel_rfl) (by kernel_rfl) (by kernel_rfl) (by kernel_rfl) (by kernel_rfl)
      (by rw [MakeChecks.laidMetH_plain _ _ _ (by kernel_rfl)]; exact laidMet_laidAll _ (by kernel_rfl) (by kernel_rfl))) ?_
  intro W base args ds gs before hval0 hW _ _ hL _
  have hval : ∀ (j : Nat) t v, Tryz.f5.params[j]? = some t → args[j]? = some v → Value.okWide Tryz.prog W .any base t v := hval0
  have hW' := hW
  obtain ⟨p, q, hA0, hV, rfl, hfz, hnd⟩ := hW
  have hA : DataW.TrodAll enc Tryz.prog W 0 (fun _ => true) true Tryz.f5.params.toList args.toList ds p := hA0
  rw [Tryz.params5] at hA hval
  obtain ⟨v0, vs0, d0, ds0, p0, q0, hargs, rfl, rfl, h0, r0⟩ := trodAll_cons hA
  obtain ⟨rfl, rfl, rfl⟩ := trodAll_nil r0
  obtain rfl : args = #[v0] := by cases args; simp_all
  obtain ⟨rfl, rfl⟩ := trodVars_none hV
  obtain ⟨a0, rfl, rfl, rfl, w0⟩ := open_int Tryz.underlying3 (hval 0 3 v0 rfl rfl) h0
  clear hA0 hval0
  simp only [List.append_nil] at hW'
  refine (walk a0 w0 W hL).mono fun e W' ⟨he, bel⟩ => ?_
  subst he
  exact ⟨_, rfl, _, _, _, [], _, [], hW', trodAll_mk1 (shut_bool Tryz.underlying4 _), (trodAll_cons_mk (shut_int Tryz.underlying3 w0) trodAll_mk0), rfl, bel.frame _, fun h => by cases h⟩
theorem over : Rows.y4ValidRow.holds Tryz.pinned (OpenSpec.ofChange Rows.y4ValidSpec) :=
  OpenClaim.holds_of_wide 5 Tryz.f5 rfl rfl rfl rfl rfl rfl rfl ⟨rfl, rfl, rfl, rfl, rfl⟩ rfl rfl rfl rfl rfl (by kernel_rfl) Tryz.func5 (by kernel_rfl)
    (of_decide_eq_true (by kernel_rfl)) (by unfold Func.isWrapper; first | (rw [if_pos (by decide +kernel)]; kernel_rfl) | (rw [if_neg (by decide +kernel)]; exact ⟨rfl, rfl⟩))
    (fun os started H enc _ => lifted os started H enc)
end Go.Proofs.YtlnfollgpbcafaaGreatDoor.y4Valid
namespace Go.Proofs.YtlnfollgpbcafaaGreatDoor
open Go
theorem y4Valid_card : Rows.Y4ValidCardSaid :=
  Claim7.holds_tied_plain_at .later [] Rows.y4ValidCard.laidKinds true (true, "086a4ffa4729d1fccb2c7c819e85afd19467a464f9a7b46ad02138a9a958927b") false y4Valid.over (fun _ h => by cases h) (by kernel_rfl) (fun _ h => by cases h) y4Valid_row_tie rfl ⟨rfl, rfl⟩ (by kernel_rfl) rfl
    (fun f fn hf hfn => by
      obtain rfl : f = 5 := Option.some.inj ((show Tryz.prog.funcNamed "tithe/tithelaw20.Y4Valid" = some 5 by kernel_rfl).symm.trans hf) |>.symm
      obtain rfl : fn = Tryz.f5 := (Option.some.inj (Tryz.func5.symm.trans hfn)).symm
      exact ⟨by kernel_rfl, fun j t ht => by
        rw [Tryz.params5] at ht
        have hm : t ∈ [3] := by simpa using Array.mem_of_getElem? ht
        have hall : ([3].all fun u => !Tryz.prog.wantsStandIn u) = true := by kernel_rfl
        exact (show Tryz.prog.wantsStandIn t = false by simpa using List.all_eq_true.1 hall t hm)⟩)
    (by kernel_rfl)
end Go.Proofs.YtlnfollgpbcafaaGreatDoor
