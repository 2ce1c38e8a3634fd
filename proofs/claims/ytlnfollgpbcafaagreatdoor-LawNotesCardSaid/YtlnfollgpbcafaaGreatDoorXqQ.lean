import Derived.Test.YtlnfollgpbcafaaGreatDoorXqP
set_option autoImplicit false
set_option linter.unusedVariables false
/-! Calls. -/
namespace Go.Proofs.YtlnfollgpbcafaaGreatDoor.Xq
open Go

section
variable {P : Program} {E : Env} {s : St} {w : World} {R : Type} {A : Ans R} {Pr : R → Prop} {call : CallT}

theorem get_leaf {α : Type} (t : Nat) : (Tr.get (pathOf t) (.leaf : Tr α)) = none := by
  cases pathOf t <;> rfl
def resOf (tmps : Array Value) : ResultVar → Sem Value
  | .tmp t => pure (tmps.getD t undef)
  | .cell a t => do loadVar t (← asAddr (tmps.getD a undef))
theorem resultsA_ok (hA : Lawful A Pr) (hR : Rel P E s w) {fr : Fr} {a : Act} (hf : FrRel E fr a.tmps) : ∀ (rs : List ResultVar) (k : List AV → R), Pr (resultsA P A s fr rs k) →
    ∃ l vs, (rs.mapM (resOf a.tmps)).run P w = .ok vs w ∧ VRL E l vs ∧ Pr (k l)
  | [], k, h => ⟨[], [], rfl, VRL.nil, h⟩
  | .tmp t :: rs, k, h => by
    obtain ⟨l, vs, h1, h2, h3⟩ := resultsA_ok hA hR hf rs (fun l => k (evalO P s fr (.tmp t) :: l)) h
    refine ⟨_, a.tmps.getD t undef :: vs, ?_, VRL.cons (evalO_ok hR hf (.tmp t)) h2, h3⟩
    simp [List.mapM_cons, resOf, h1]
  | .cell x t :: rs, k, h => by
    have h : Pr (match evalO P s fr (.tmp x) with
      | .ptr b off => loadA P A t s b off fun v => resultsA P A s fr rs fun l => k (v :: l)
      | _ => A.fail "result cell") := h
    have hx := evalO_ok hR hf (.tmp x)
    split at h
    · rename_i b off q
      rw [q] at hx
      obtain ⟨r, c, hr, e⟩ := hx
      have e : a.tmps.getD x undef = .pointer (some ⟨r, off, none⟩) := e
      obtain ⟨v, y, g1, g2, g3⟩ := loadA_ok hA hR hr h
      obtain ⟨l, vs, h1, h2, h3⟩ := resultsA_ok hA hR hf rs (fun l => k (v :: l)) g3
      refine ⟨_, y :: vs, ?_, VRL.cons g2 h2, h3⟩
      simp [List.mapM_cons, resOf, e, asAddr, g1, h1]
    · exact (hA.fail _ h).elim
theorem results_run {fn : Func} {tmps : Array Value} {vs : List Value} (h : (fn.results.toList.mapM (resOf tmps)).run P w = .ok vs w) :
    (results fn tmps).run P w = .ok (if h : vs.length = 1 then vs[0] else .tuple vs.toArray) w := by
  have : (fn.results.mapM (resOf tmps)).run P w = .ok vs.toArray w := by
    rw [Array.mapM_eq_mapM_toList]
    simp [h]
  have e : results fn tmps = (do let vs ← fn.results.mapM (resOf tmps); Pure.pure (if h : vs.size = 1 then vs[0] else .tuple vs)) := rfl
  rw [e]
  simp only [Sem.run_bind, this, Result.andThen_ok]
  simp
theorem argsFr_get : ∀ (args : List AV) (i : Nat) (fr : Fr) (t : Nat), (argsFr args i fr).get (pathOf t) = if i ≤ t ∧ t < i + args.length then args[t - i]? else fr.get (pathOf t)
  | [], i, fr, t => by
    rw [if_neg (by simp)]
    rfl
  | v :: args, i, fr, t => by
    have : argsFr (v :: args) i fr = argsFr args (i + 1) (fr.set (some v) (pathOf i)) := rfl
    rw [this, argsFr_get args (i + 1), Tr.get_set_of]
    simp only [List.length_cons]
    by_cases h1 : i + 1 ≤ t ∧ t < i + 1 + args.length
    · rw [if_pos h1, if_pos (by omega)]
      have : t - i = (t - (i + 1)) + 1 := by omega
      rw [this]; simp
    · rw [if_neg h1]
      by_cases h2 : i = t
      · subst h2
        rw [if_pos rfl, if_pos (by omega)]; simp
      · rw [if_neg h2, if_neg (by omega)]
theorem argsFr_ok {args : List AV} {vs : Array Value} (h : VRL E args vs.toList) (n : Nat) : FrRel E (argsFr args 0 .leaf) (vs ++ Array.replicate n undef) := by
  intro t v ht
  rw [argsFr_get] at ht
  split at ht
  · obtain ⟨x, hx, hv⟩ := h.get ht
    refine ⟨x, ?_, hv⟩
    have hlt := (List.getElem?_eq_some_iff.1 hx).1
    rw [Array.getElem?_append_left (by simpa using hlt)]
    simpa using hx
  · rw [get_leaf] at ht; cases ht
/-- what is said of functions beforehand -/
def SmOk (P : Program) (sm : Sm) : Prop := ∀ (E : Env) (s : St) (w : World) (f : Nat) (args : List AV) (vs : Array Value) (v : AV) (s' : St), Rel P E s w → VRL E args vs.toList → smFind sm s f args = some (v, s') →
    CallRes P E s w f vs fun u s1 => u = v ∧ s1 = s'
theorem smOk0 : SmOk P sm0 := by
  intro E s w f args vs v s' _ _ h
  exfalso
  unfold smFind sm0 at h
  rw [get_leaf, get_leaf, get_leaf] at h
  cases h
theorem callBody_ok (hC : CallOk P call) (hD : DrawOk P call) (hA : Lawful A Pr) (hR : Rel P E s w) {f : Nat} {args : List AV} {vs : Array Value} {k : KV R} (hv : VRL E args vs.toList) (h : Pr (callBody P call R A f args s k)) :
    (∃ fn, bodyOf P f = some fn) ∧ Calls P f vs w fun e w' => ∃ v s' E' x, e = .returned x ∧ VR E' v x ∧ Rel P E' s' w' ∧ Step E s w E' s' w' ∧ Pr (k v s') := by
  unfold callBody at h
  split at h
  · rename_i fn hfn
    refine ⟨⟨fn, hfn⟩, ?_⟩
    obtain ⟨hf, hname, _⟩ := bodyOf_some hfn
    split at h
    · rename_i c hc
      split at h
      · rename_i hle
        rw [lenL_eq] at hle
        have hle := ble_iff.1 hle
        have hlen := hv.length
        have hsz : vs.size = args.length := by rw [← Array.length_toList, ← hlen]
        refine calls_of_wp hf hc (wp_mono (runCode_ok hA hC hD fn.ntmps c _ s _ E ⟨vs ++ Array.replicate (fn.ntmps - vs.size) undef, []⟩ w hR (argsFr_ok hv _) (by simp; omega) h) fun e a' w' hp => ?_)
        obtain ⟨ex, s', fr', E', rfl, h2, h3, h4, h5, h6, h7⟩ := hp
        have fin : Pr (resultsA P A s' fr' fn.results.toList fun l => match l with | [v] => k v s' | l => k (.tuple l) s') →
            a'.defers = [] ∧ ∃ v, (results fn a'.tmps).run P w' = .ok v w' ∧ ∃ v' s'' E'' x, Ending.returned v = .returned x ∧ VR E'' v' x ∧ Rel P E'' s'' w' ∧ Step E s w E'' s'' w' ∧ Pr (k v' s'') := by
          intro h8
          refine ⟨h6, ?_⟩
          obtain ⟨l, us, g1, g2, g3⟩ := resultsA_ok hA h2 h4 _ _ h8
          refine ⟨_, results_run g1, ?_⟩
          have gl := g2.length
          split at g3
          · rename_i v
            obtain ⟨x, xs, rfl, hx, hxs⟩ := g2
            have hxs : xs = [] := hxs
            subst hxs
            exact ⟨v, s', E', x, rfl, hx, h2, h3, g3⟩
          · rename_i hne
            have : ¬ us.length = 1 := fun q => by
              rw [← gl] at q
              obtain ⟨v, rfl⟩ := List.length_eq_one_iff.1 q
              exact hne v rfl
            rw [dif_neg this]
            exact ⟨.tuple l, s', E', _, rfl, ⟨_, rfl, by simpa using g2⟩, h2, h3, g3⟩
        cases ex with
        | normal => exact fin h7
        | ret => exact fin h7
        | exit i => exact (hA.fail _ h7).elim
      · exact (hA.fail _ h).elim
    · exact (hA.fail _ h).elim
  · exact (hA.fail _ h).elim
/-- calls are sound, if regions that draw are -/
theorem callF_ok {sm : Sm} (hsm : SmOk P sm) (hD : ∀ call, CallOk P call → DrawOk P call) : ∀ fuel, CallOk P (callF P sm fuel)
  | 0 => fun R A Pr hA E s w f args vs k hR hv h => (hA.fail _ h).elim
  | n + 1 => fun R A Pr hA E s w f args vs k hR hv h => by
    have hC := callF_ok hsm hD n
    have h : Pr (orec (callBody P (callF P sm n) R A f args s k) (fun p => k p.1 p.2) (smFind sm s f args)) := h
    cases hs : smFind sm s f args with
    | none =>
      rw [hs] at h
      exact .inl (callBody_ok hC (hD _ hC) hA hR hv h)
    | some p =>
      obtain ⟨v, s'⟩ := p
      rw [hs] at h
      rcases hsm E s w f args vs v s' hR hv hs with ⟨h1, h2⟩ | ⟨u, x, h1, h2, rfl, rfl⟩
      · exact .inl ⟨h1, Calls.mono h2 fun e w' ⟨u, s1, E', x, g1, g2, g3, g4, g5, g6⟩ => by subst g5; subst g6; exact ⟨u, s1, E', x, g1, g2, g3, g4, h⟩⟩
      · exact .inr ⟨u, x, h1, h2, h⟩
end
end Go.Proofs.YtlnfollgpbcafaaGreatDoor.Xq
