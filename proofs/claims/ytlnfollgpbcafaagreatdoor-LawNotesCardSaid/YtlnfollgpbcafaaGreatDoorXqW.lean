import Derived.Test.YtlnfollgpbcafaaGreatDoorXqV
set_option autoImplicit false
set_option linter.unusedVariables false
/-! Regions that draw their order are sound; so calls are. -/
namespace Go.Proofs.YtlnfollgpbcafaaGreatDoor.Xq
open Go

section
variable {P : Program} {call : CallT} {ops : Array Oper} {T : Nat → St} {F : Nat → Fr} {C : Nat → List Rec} {I : Nat → Option Info} {S : Nat → Prop}
variable {n : Nat} {ds : List Deferred} {E0 E : Env} {w0 w : World} {a : Act}

theorem lawfulRes (v : AV) (s : St) : Lawful ansRes (fun r => r = Res.ok v s) := ⟨fun m h => (by cases h), fun q a b h => (by cases h)⟩
theorem guard_read {o : Oper} {g : Nat × Bool} (hg : o.guard = some g) {d : Nat} (hd : dstOf ops g.1 = some d) : d ∈ readsOf ops o := by
  unfold readsOf
  rw [appL_eq, List.mem_append]
  right
  rw [hg]
  obtain ⟨j, b⟩ := g
  unfold dstOf at hd
  dsimp only at hd ⊢
  cases hj : ops[j]? with
  | none => rw [hj] at hd; cases hd
  | some o' =>
    rw [hj] at hd
    dsimp only at hd ⊢
    rw [hd]
    exact List.mem_cons_self ..
theorem Inv.wanted (h : Inv P ops T F I n ds E0 w0 S E a w) (t : Tra P call ops T F C I) (hS : Closed ops S) {i : Nat} (hni : ¬ S i) (hpre : ∀ m, Dir ops m i → S m) {o : Oper} (ho : ops[i]? = some o) {g : Nat × Bool} (hg : o.guard = some g) {r : Bool}
    (hw : wantedA ops (F i) g = some r) : Region.wanted o (yielded ops a.tmps) = r :=
  wantedA_ok (E := E) hg (fun d v hd hv => h.slotAt t (t.seeT hS hni hpre ho (guard_read hg hd)) hv) hw
/-- an operation that is carried out -/
theorem Inv.op (h : Inv P ops T F I n ds E0 w0 S E a w) (t : Tra P call ops T F C I) (hC : CallOk P call) (hR0 : Rel P E0 (T 0) w0) (hS : Closed ops S) {i : Nat} (hni : ¬ S i) (hpre : ∀ m, Dir ops m i → S m) {o : Oper} (ho : ops[i]? = some o)
    {f : Info} (hI : I i = some f) (hd : dstsOk n ops = true) {G : Env} {wg : World} {ag : Act} (hG : Rel P G (T i) wg) (hF : FrRel G (F i) ag.tmps) :
    Region.wanted o (yielded ops a.tmps) = true ∧ StepRes P (E.cut (T i).next) f.view w ((execOp a.eval o).run P w) (fun v' s' => v' = f.v ∧ s' = f.out) ∧
    ∀ E' x w', VR E' f.v x → Rel P E' f.out w' → Step (E.cut (T i).next) f.view w E' f.out w' → ∃ E'', Inv P ops T F I n ds E0 w0 (Also S i) E'' (a.put o.dst x) w' := by
  have R := (t.run ho hI).1
  obtain ⟨v1, v2, v3⟩ := h.view t hR0 hS hni hpre ho hI hG hF
  refine ⟨?_, ?_, fun E' x w' g1 g2 g3 => ⟨_, h.run t hR0 hS hni hpre ho hI hd v3 g1 g2 g3⟩⟩
  · cases hg : o.guard with
    | none => unfold Region.wanted; rw [hg]
    | some g => exact h.wanted t hS hni hpre ho hg (R.wanted g hg)
  · have := step_ok (lawfulRes f.v f.out) hC v1 v2 R.step
    exact this.mono fun v' s' q => by cases q; exact ⟨rfl, rfl⟩
theorem closed_lt (hb : backOk ops = true) (i : Nat) : Closed ops (fun k => k < i) := fun k hk j hd => Nat.lt_trans (backOk_ok hb hd) hk
theorem also_lt (i : Nat) : Also (fun k => k < i) i = fun k => k < i + 1 := by
  funext k
  apply propext
  show (k < i ∨ k = i) ↔ k < i + 1
  omega
/-- the run in the order of the text can be made -/
theorem ghost (t : Tra P call ops T F C I) (hC : CallOk P call) (hR0 : Rel P E0 (T 0) w0) (hf : FrRel E0 (F 0) a.tmps) (hn : a.tmps.size = n) (hdf : a.defers = ds) (hd : dstsOk n ops = true) : ∀ i, i ≤ ops.size →
    ∃ E a w, Inv P ops T F I n ds E0 w0 (fun k => k < i) E a w
  | 0, _ => ⟨E0, a, w0, by
      have : (fun k => k < 0) = fun _ : Nat => False := by funext k; apply propext; exact ⟨fun q => absurd q (Nat.not_lt_zero _), fun q => q.elim⟩
      rw [this]
      exact Inv.start t hR0 hf hn hdf⟩
  | i + 1, hi => by
    obtain ⟨E, a1, w, h⟩ := ghost t hC hR0 hf hn hdf hd i (by omega)
    obtain ⟨o, ho⟩ := op_at (ops := ops) (j := i) (by omega)
    have hS := closed_lt t.back i
    have hni : ¬ i < i := Nat.lt_irrefl _
    have hpre : ∀ m, Dir ops m i → m < i := fun m hm => backOk_ok t.back hm
    cases hI : I i with
    | none =>
      have := h.pass t hS hni hpre ho hI hd
      rw [also_lt] at this
      exact ⟨_, _, _, this⟩
    | some f =>
      obtain ⟨s1, s2⟩ := h.scope t hR0 (i := i) (by omega) fun k _ => Iff.rfl
      obtain ⟨_, g1, g2⟩ := h.op t hC hR0 hS hni hpre ho hI hd s1 s2
      obtain ⟨v, s', E', x, w', k1, k2, k3, rfl, rfl⟩ := g1.ex
      obtain ⟨E'', h'⟩ := g2 E' x w' k1 k2 k3
      rw [also_lt] at h'
      exact ⟨_, _, _, h'⟩
/-- the operations that have been carried out -/
def Lst (l : Array Bool) : Nat → Prop := fun k => l.getD k false = true
theorem lst_set {l : Array Bool} {i : Nat} (hi : i < l.size) : Lst (l.setIfInBounds i true) = Also (Lst l) i := by
  funext k
  apply propext
  unfold Lst Also
  simp only [Array.getD_eq_getD_getElem?]
  by_cases q : i = k
  · subst q
    simp [hi]
  · rw [Array.getElem?_setIfInBounds_ne q]
    refine ⟨fun h => .inl h, fun h => ?_⟩
    rcases h with h | h
    · exact h
    · exact absurd h.symm q
theorem count_set_true : ∀ (l : List Bool) (i : Nat), l[i]? = some false → (l.set i true).count false + 1 = l.count false
  | [], i, h => by simp at h
  | b :: l, 0, h => by
    simp at h; subst h
    simp
  | b :: l, i + 1, h => by
    have := count_set_true l i (by simpa using h)
    cases b <;> simp <;> omega
theorem any_ok (t : Tra P call ops T F C I) (hC : CallOk P call) (hR0 : Rel P E0 (T 0) w0) (hd : dstsOk n ops = true) (hgh : ∀ i, i ≤ ops.size → ∃ E a w, Inv P ops T F I n ds E0 w0 (fun k => k < i) E a w)
    {K : Ex → St → Fr → Prop} (hK : K .normal (T ops.size) (F ops.size)) : ∀ (fuel : Nat) (l : Array Bool) (E : Env) (a : Act) (w : World), l.size = ops.size → l.toList.count false = fuel → Closed ops (Lst l) → Inv P ops T F I n ds E0 w0 (Lst l) E a w →
    wpAny P .any ops (Post P E0 (T 0) w0 n ds K) fuel l a w := by
  have ready_iff : ∀ (l : Array Bool) (i : Nat), i ∈ Region.ready .any ops l ↔ i < ops.size ∧ l.getD i true = false ∧ ∃ o, ops[i]? = some o ∧ ∀ e ∈ o.after.toList, Region.binds .any e = true → Lst l e.on := by
    intro l i
    unfold Region.ready
    rw [List.mem_filter, List.mem_range]
    constructor
    · rintro ⟨h1, h2⟩
      rw [Bool.and_eq_true] at h2
      obtain ⟨h2, h3⟩ := h2
      refine ⟨h1, by simpa using h2, ?_⟩
      obtain ⟨o, ho⟩ := op_at h1
      refine ⟨o, ho, fun e he hb => ?_⟩
      rw [ho] at h3
      simp only [Option.map_some, Option.getD_some] at h3
      rw [Array.all_eq_true'] at h3
      have := h3 e (by simpa using he)
      rw [hb] at this
      simpa [Lst] using this
    · rintro ⟨h1, h2, o, ho, h3⟩
      refine ⟨h1, ?_⟩
      rw [Bool.and_eq_true]
      refine ⟨by simp [h2], ?_⟩
      rw [ho]
      simp only [Option.map_some, Option.getD_some]
      rw [Array.all_eq_true']
      intro e he
      cases hb : Region.binds .any e with
      | false => simp
      | true => have := h3 e (by simpa using he) hb; simpa [Lst] using this
  have listed_of : ∀ (l : Array Bool), l.size = ops.size → l.toList.count false = 0 → ∀ k, k < ops.size → Lst l k := by
    intro l hl hc k hk
    have := List.count_eq_zero.1 hc
    unfold Lst
    have hlt : k < l.size := by omega
    rw [Array.getD_eq_getD_getElem?, Array.getElem?_eq_getElem hlt]
    cases hb : l[k] with
    | true => rfl
    | false => exact (this (by rw [← hb]; simp)).elim
  have none_ready : ∀ (l : Array Bool), l.size = ops.size → l.toList.count false ≠ 0 → Region.ready .any ops l ≠ [] := by
    intro l hl hc hr
    have all : ∀ k, k < ops.size → Lst l k := by
      intro k
      induction k using Nat.strongRecOn with
      | _ k ih =>
        intro hk
        have hlt : k < l.size := by omega
        cases hb : l[k] with
        | true => unfold Lst; rw [Array.getD_eq_getD_getElem?, Array.getElem?_eq_getElem hlt, hb]; rfl
        | false =>
          exfalso
          obtain ⟨o, ho⟩ := op_at hk
          have : k ∈ Region.ready .any ops l := (ready_iff l k).2 ⟨hk, by rw [Array.getD_eq_getD_getElem?, Array.getElem?_eq_getElem hlt, hb]; rfl, o, ho, fun e he hb => by
            have hlt := backOk_ok t.back (j := e.on) (i := k) ⟨o, ho, e, he, hb, rfl⟩
            exact ih e.on hlt (by omega)⟩
          rw [hr] at this; cases this
    apply hc
    rw [List.count_eq_zero]
    intro hm
    obtain ⟨k, hk, e⟩ := List.getElem_of_mem hm
    have hk' : k < l.size := by simpa using hk
    have := all k (by omega)
    unfold Lst at this
    rw [Array.getD_eq_getD_getElem?, Array.getElem?_eq_getElem hk'] at this
    simp at e
    rw [e] at this
    cases this
  intro fuel
  induction fuel with
  | zero =>
    intro l E a w hl hc hS h
    have all := listed_of l hl hc
    refine ⟨?_, ?_⟩
    · apply List.eq_nil_iff_forall_not_mem.2
      intro i hi
      obtain ⟨h1, h2, _⟩ := (ready_iff l i).1 hi
      have := all i h1
      unfold Lst at this
      have hlt : i < l.size := by omega
      rw [Array.getD_eq_getD_getElem?, Array.getElem?_eq_getElem hlt] at this h2
      simp at this h2
      rw [this] at h2; cases h2
    · have hA : ∀ k, k < ops.size → (Lst l k ↔ k < ops.size) := fun k hk => ⟨fun _ => hk, fun _ => all k hk⟩
      obtain ⟨s1, s2⟩ := h.scope t hR0 (Nat.le_refl _) hA
      refine ⟨.normal, T ops.size, F ops.size, E, rfl, s1, ?_, s2, h.size, h.defers, hK⟩
      exact ⟨h.ext, (t.base (Nat.le_refl _)).1, t.mono (Nat.zero_le _) (Nat.le_refl _), h.old, h.os, h.tape, h.output, h.wsize, h.keep, fun b o r c hb hbase e hr => by
        rw [(t.base (Nat.le_refl _)).1] at hbase
        exact h.own b ops.size o r c ⟨Nat.le_refl _, fun k hk _ => hA k hk⟩ hb hbase e hr⟩
  | succ fuel ih =>
    intro l E a w hl hc hS h
    refine ⟨fun q => (none_ready l hl (by omega) q).elim, fun i hi => ?_⟩
    obtain ⟨h1, h2, o, ho, h3⟩ := (ready_iff l i).1 hi
    have hlt : i < l.size := by omega
    have hli : l[i] = false := by
      rw [Array.getD_eq_getD_getElem?, Array.getElem?_eq_getElem hlt] at h2
      simpa using h2
    have hni : ¬ Lst l i := by
      unfold Lst
      rw [Array.getD_eq_getD_getElem?, Array.getElem?_eq_getElem hlt, hli]
      simp
    have hpre : ∀ m, Dir ops m i → Lst l m := by
      rintro m ⟨o', ho', e, he, hb, rfl⟩
      rw [ho] at ho'; cases ho'
      exact h3 e he hb
    have hl' : (l.setIfInBounds i true).size = ops.size := by simpa using hl
    have hc' : (l.setIfInBounds i true).toList.count false = fuel := by
      rw [Array.toList_setIfInBounds]
      have := count_set_true l.toList i (by simp [hlt, hli])
      omega
    have hS' : Closed ops (Lst (l.setIfInBounds i true)) := by
      rw [lst_set hlt]
      intro k hk j hj
      rcases hk with hk | hk
      · exact .inl (hS k hk j hj)
      · subst hk; exact .inl (hpre j hj)
    have next : ∀ E' a' w', Inv P ops T F I n ds E0 w0 (Also (Lst l) i) E' a' w' → wpAny P .any ops (Post P E0 (T 0) w0 n ds K) fuel (l.setIfInBounds i true) a' w' := fun E' a' w' h' =>
      ih (l.setIfInBounds i true) E' a' w' hl' hc' hS' (by rw [lst_set hlt]; exact h')
    unfold wpOp
    rw [ho]
    dsimp only
    cases hI : I i with
    | none =>
      obtain ⟨⟨g, hg, hw⟩, _⟩ := t.skip ho hI
      have := h.wanted t hS hni hpre ho hg hw
      rw [if_neg (by rw [this]; decide)]
      exact next _ _ _ (h.pass t hS hni hpre ho hI hd)
    | some f =>
      obtain ⟨Eg, ag, wg, hg⟩ := hgh i (by omega)
      obtain ⟨s1, s2⟩ := hg.scope t hR0 (i := i) (by omega) fun k _ => Iff.rfl
      obtain ⟨g0, g1, g2⟩ := h.op t hC hR0 hS hni hpre ho hI hd s1 s2
      rw [if_pos g0]
      refine .inl (g1.wp fun v s' E' x w' k1 k2 k3 k4 => ?_)
      obtain ⟨rfl, rfl⟩ := k4
      obtain ⟨E'', h'⟩ := g2 E' x w' k1 k2 k3
      exact next _ _ _ h'
end

section
variable {P : Program} {call : CallT}
theorem drawReg_ok (hm : P.follows .mixedOrders = true) (hC : CallOk P call) : DrawOk P call := by
  intro R A Pr hA n id ops k s fr E a w hd hR hf hn h
  unfold drawReg at h
  split at h
  · exact (hA.fail _ h).elim
  · rename_i hslots
    split at h
    · exact (hA.fail _ h).elim
    · rename_i hback
      generalize 40 = N at h
      revert s
      induction N with
      | zero => intro s hR h; exact (hA.fail _ h).elim
      | succ N ih =>
        intro s hR h
        have h : Pr (drawAgain P call A ops k (nrec (β := St → Fr → R) (fun _ _ => A.fail "too many cases") (fun _ again => drawAgain P call A ops k again) N) s fr) := h
        unfold drawAgain at h
        split at h
        · rename_i sF frF hgo
          obtain ⟨T, F, C, I, t1, t2, t3, t4, t5, t6⟩ := trace_of ops.toList 0 [] s fr sF frF rfl (Nat.zero_le _) hgo
          have t : Tra P call ops T F C I := ⟨fun j o ho => t6 j (Nat.zero_le _) o ho, t3, hslots, hback⟩
          subst t1; subst t2; subst t4; subst t5
          have hR0 : Rel P E (T 0) { w with drawn := w.drawn + 1 } := hR.world rfl
          have hgh := ghost (ds := a.defers) t hC hR0 hf hn rfl hd
          have s0 : Lst (Array.replicate ops.size false) = fun _ => False := by
            funext j
            apply propext
            unfold Lst
            rw [Array.getD_eq_getD_getElem?, Array.getElem?_replicate]
            split <;> simp
          have := any_ok t hC hR0 hd hgh (K := fun e s fr => Pr (k e s fr)) h ops.size (Array.replicate ops.size false) E a { w with drawn := w.drawn + 1 } (by simp) (by simp) (by rw [s0]; exact fun _ q => q.elim)
            (by rw [s0]; exact Inv.start t hR0 hf hn rfl)
          exact wp_mono (wp_region_any hm this) fun e a' w' hp => Post.from (Step.world (E := E) (s := T 0) (w := w) (w' := { w with drawn := w.drawn + 1 }) rfl rfl rfl rfl) hp fun _ _ _ q => q
        · exact (hA.fail _ h).elim
        · rename_i i m hgo
          split at h
          · rename_i lo hi hiv
            split at h
            · exact (hA.fail _ h).elim
            · split at h
              · exact (hA.fail _ h).elim
              · obtain ⟨h1, h2⟩ := hA.fork _ _ _ h
                obtain ⟨v, e, g1, g2⟩ := hR.sy.ints i lo hi hiv
                by_cases q : v ≤ m
                · have r := Refn.ivSet s i lo m
                  refine wp_mono (ih _ (hR.refn r (hR.sy.ivSet e g1 q)) h1) fun e a w hp => Post.from (Step.refn r) hp fun _ _ _ q => q
                · have r := Refn.ivSet s i (m + 1) hi
                  refine wp_mono (ih _ (hR.refn r (hR.sy.ivSet e (by omega) g2)) h2) fun e a w hp => Post.from (Step.refn r) hp fun _ _ _ q => q
          · exact (hA.fail _ h).elim
        · rename_i i l m hgo
          split at h
          · rename_i ls hls
            obtain ⟨h1, h2⟩ := hA.fork _ _ _ h
            by_cases q : (E.ς i).data.toList.length = l ∧ num (E.ς i).data.toList 0 = m
            · have r := Refn.sfSet s i (.known l m)
              refine wp_mono (ih _ (hR.refn r (hR.sy.known' q)) h1) fun e a w hp => Post.from (Step.refn r) hp fun _ _ _ q => q
            · have r := Refn.sfSet s i (.excl ((l, m) :: ls))
              refine wp_mono (ih _ (hR.refn r (hR.sy.excl' q hls)) h2) fun e a w hp => Post.from (Step.refn r) hp fun _ _ _ q => q
          · exact (hA.fail _ h).elim
/-- calls are sound -/
theorem callF_sound (hm : P.follows .mixedOrders = true) {sm : Sm} (hsm : SmOk P sm) (fuel : Nat) : CallOk P (callF P sm fuel) := callF_ok hsm (fun call hC => drawReg_ok hm hC) fuel
end
end Go.Proofs.YtlnfollgpbcafaaGreatDoor.Xq
