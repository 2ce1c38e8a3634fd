import Derived.Test.YtlnfollgpbcafaaGreatDoorXqT
set_option autoImplicit false
set_option linter.unusedVariables false
/-! Regions that draw their order: what any order keeps. -/
namespace Go.Proofs.YtlnfollgpbcafaaGreatDoor.Xq
open Go

/-! ### names cut off -/
def Env.cut (E : Env) (n : Nat) : Env := { E with ρ := fun b => if b < n then E.ρ b else none }
theorem Env.cut_ρ {E : Env} {n b : Nat} {p : Nat × Nat} (h : (E.cut n).ρ b = some p) : b < n ∧ E.ρ b = some p := by
  simp only [Env.cut] at h
  split at h
  · rename_i q; exact ⟨q, h⟩
  · cases h
theorem Env.cut_lt {E : Env} {n b : Nat} (h : b < n) : (E.cut n).ρ b = E.ρ b := by simp [Env.cut, h]
theorem Ext.cut (E : Env) (n : Nat) : Ext (E.cut n) E := ⟨fun b p h => (Env.cut_ρ h).2, fun _ _ h => h, rfl⟩
mutual
theorem VR.cut {E G : Env} {n : Nat} (hn : ∀ b, n ≤ b → G.ρ b = none) : ∀ {a : AV} {v u : Value}, VR E a v → VR G a u → VR (E.cut n) a v
  | .any, _, _, _, _ => trivial
  | .bool _, _, _, k, _ => k
  | .int _ _, _, _, k, _ => k
  | .sym _, _, _, k, _ => k
  | .str _ _, _, _, k, _ => k
  | .strs _ _, _, _, k, _ => k
  | .ptr b _, _, _, ⟨r, c, e, k⟩, ⟨r', c', e', _⟩ => ⟨r, c, by rw [Env.cut_lt (lt_of_some hn e')]; exact e, k⟩
  | .ptrI b _ _ _, _, _, ⟨r, c, m, e, q, k⟩, ⟨r', c', _, e', _⟩ => ⟨r, c, m, by rw [Env.cut_lt (lt_of_some hn e')]; exact e, q, k⟩
  | .nilp, _, _, k, _ => k
  | .slice b _ _ _, _, _, ⟨r, c, e, k⟩, ⟨r', c', e', _⟩ => ⟨r, c, by rw [Env.cut_lt (lt_of_some hn e')]; exact e, k⟩
  | .sliceT b _ _ _, _, _, ⟨r, c, cap, e, k⟩, ⟨r', c', _, e', _⟩ => ⟨r, c, cap, by rw [Env.cut_lt (lt_of_some hn e')]; exact e, k⟩
  | .nils, _, _, k, _ => k
  | .map b, _, _, ⟨r, c, e, k⟩, ⟨r', c', e', _⟩ => ⟨r, c, by rw [Env.cut_lt (lt_of_some hn e')]; exact e, k⟩
  | .nilm, _, _, k, _ => k
  | .func _ _, _, _, ⟨vs, e, k⟩, ⟨us, e', k'⟩ => ⟨vs, e, VRL.cut hn k k'⟩
  | .nilf, _, _, k, _ => k
  | .iface _ _, _, _, ⟨y, e, k⟩, ⟨y', e', k'⟩ => ⟨y, e, VR.cut hn k k'⟩
  | .nili, _, _, k, _ => k
  | .agg _, _, _, ⟨vs, e, k⟩, ⟨us, e', k'⟩ => ⟨vs, e, VRL.cut hn k k'⟩
  | .tuple _, _, _, ⟨vs, e, k⟩, ⟨us, e', k'⟩ => ⟨vs, e, VRL.cut hn k k'⟩
theorem VRL.cut {E G : Env} {n : Nat} (hn : ∀ b, n ≤ b → G.ρ b = none) : ∀ {l : List AV} {vs us : List Value}, VRL E l vs → VRL G l us → VRL (E.cut n) l vs
  | [], _, _, k, _ => k
  | _ :: _, _, _, ⟨x, xs, e, k, m⟩, ⟨x', xs', e', k', m'⟩ => ⟨x, xs, e, VR.cut hn k k', VRL.cut hn m m'⟩
theorem lt_of_some {G : Env} {n b : Nat} {p : Nat × Nat} (hn : ∀ b, n ≤ b → G.ρ b = none) (h : G.ρ b = some p) : b < n := by
  rcases Nat.lt_or_ge b n with g | g
  · exact g
  · rw [hn b g] at h; cases h
end
theorem MR.cut {E G : Env} {n : Nat} (hn : ∀ b, n ≤ b → G.ρ b = none) : ∀ {l : List (AV × AV)} {es fs : List MapEntry}, MR E l es → MR G l fs → MR (E.cut n) l es
  | [], _, _, k, _ => k
  | _ :: _, _, _, ⟨e, r, q, a, b, k⟩, ⟨e', r', q', a', b', k'⟩ => ⟨e, r, q, a.cut hn a', b.cut hn b', MR.cut hn k k'⟩
theorem OR.cut {E G : Env} {n : Nat} (hn : ∀ b, n ≤ b → G.ρ b = none) {o : AObj} {r c r' c' : Nat} {w w' : World} (h : OR E o r c w) (g : OR G o r' c' w') : OR (E.cut n) o r c w := by
  cases o with
  | cells l t full =>
    obtain ⟨cs, vs, rest, h1, h2, h3, h4⟩ := h
    obtain ⟨cs', vs', rest', g1, g2, g3, g4⟩ := g
    exact ⟨cs, vs, rest, h1, h2, h3.cut hn g3, h4⟩
  | map es =>
    obtain ⟨ms, clock, h1, h2⟩ := h
    obtain ⟨ms', clock', g1, g2⟩ := g
    exact ⟨ms, clock, h1, h2.cut hn g2⟩

/-! ### pairs of operations -/
theorem pairsOk_ok {ops : Array Oper} {recs : List Rec} {i : Nat} {cl : Bool} {tch wr : List Nat} (h : pairsOk ops recs i cl tch wr = true) {r : Rec} (hr : r ∈ recs) (ho : ordB ops r.i i = false) :
    (cl = false → (∀ x ∈ tch, x ∉ r.wr) ∧ ∀ x ∈ tch, x < r.lo ∨ r.hi ≤ x) ∧ (r.call = true → ∀ x ∈ wr, r.hi ≤ x) ∧ (r.call = false → ∀ x ∈ wr, x ∉ r.tch) := by
  unfold pairsOk at h
  rw [allL_iff] at h
  have h := h r hr
  rw [ho] at h
  dsimp only at h
  split at h
  · cases h
  · rename_i h1
    refine ⟨fun q => ?_, fun q => ?_, fun q => ?_⟩
    · subst q
      dsimp only at h1
      split at h1
      · rename_i h2
        exact ⟨disjL_iff.1 h2, outOf_iff.1 h1⟩
      · cases h1
    · rw [q] at h
      have h : allL (fun x => Nat.ble r.hi x) wr = true := h
      rw [allL_iff] at h
      exact fun x hx => ble_iff.1 (h x hx)
    · rw [q] at h
      exact disjL_iff.1 h
theorem hidden_ok {ops : Array Oper} {recs : List Rec} {i : Nat} {r : Rec} (hr : r ∈ recs) (ho : ordB ops r.i i = false) {b : Nat} (hb : b ∈ r.wr ∨ (r.lo ≤ b ∧ b < r.hi)) : b ∈ hiddenOf ops recs i := by
  induction recs with
  | nil => cases hr
  | cons q recs ih =>
    have e : hiddenOf ops (q :: recs) i = (match ordB ops q.i i with | true => hiddenOf ops recs i | false => appL q.wr (appL (rangeL q.lo q.hi) (hiddenOf ops recs i))) := rfl
    rw [e]
    rcases List.mem_cons.1 hr with rfl | hr
    · rw [ho]
      dsimp only
      rw [appL_eq, appL_eq, List.mem_append, List.mem_append]
      rcases hb with hb | hb
      · exact .inl hb
      · exact .inr (.inl (rangeL_mem.2 hb))
    · have := ih hr
      cases ordB ops q.i i with
      | true => exact this
      | false =>
        dsimp only
        rw [appL_eq, appL_eq, List.mem_append, List.mem_append]
        exact .inr (.inr this)

/-! ### the run in the order of the text -/
structure Tra (P : Program) (call : CallT) (ops : Array Oper) (T : Nat → St) (F : Nat → Fr) (C : Nat → List Rec) (I : Nat → Option Info) : Prop where
  one : ∀ j o, ops[j]? = some o → OneOk P call ops j (C j) o (T j) (F j) (T (j + 1)) (F (j + 1)) (C (j + 1)) (I j)
  start : C 0 = []
  slots : tmpsOk ops = true
  back : backOk ops = true
section
variable {P : Program} {call : CallT} {ops : Array Oper} {T : Nat → St} {F : Nat → Fr} {C : Nat → List Rec} {I : Nat → Option Info}

theorem op_at {j : Nat} (h : j < ops.size) : ∃ o, ops[j]? = some o := ⟨ops[j], by simp [h]⟩
theorem Tra.run (t : Tra P call ops T F C I) {j : Nat} {o : Oper} (ho : ops[j]? = some o) {f : Info} (hf : I j = some f) : RunOk P call ops j (C j) o (T j) (F j) (T (j + 1)) f ∧ F (j + 1) = putF (F j) o.dst f.v ∧ C (j + 1) = recOf j (T j) f :: C j := by
  have := t.one j o ho
  rw [hf] at this
  exact this
theorem Tra.skip (t : Tra P call ops T F C I) {j : Nat} {o : Oper} (ho : ops[j]? = some o) (hf : I j = none) : (∃ g, o.guard = some g ∧ wantedA ops (F j) g = some false) ∧ T (j + 1) = T j ∧ F (j + 1) = putF (F j) o.dst undefA ∧ C (j + 1) = C j := by
  have := t.one j o ho
  rw [hf] at this
  exact this
theorem Tra.recs (t : Tra P call ops T F C I) {j i : Nat} (hi : i ≤ ops.size) (hji : j < i) {f : Info} (hf : I j = some f) : recOf j (T j) f ∈ C i := by
  induction i with
  | zero => omega
  | succ i ih =>
    obtain ⟨o, ho⟩ := op_at (ops := ops) (j := i) (by omega)
    by_cases q : j = i
    · subst q
      rw [(t.run ho hf).2.2]
      exact List.mem_cons_self ..
    · have := ih (by omega) (by omega)
      cases hI : I i with
      | none => rw [(t.skip ho hI).2.2.2]; exact this
      | some g => rw [(t.run ho hI).2.2]; exact List.mem_cons_of_mem _ this
/-- the operation k changes the block b, or makes it -/
def Chg (T : Nat → St) (I : Nat → Option Info) (k b : Nat) : Prop := ∃ f, I k = some f ∧ (b ∈ f.wr ∨ ((T k).next ≤ b ∧ b < f.out.next))
/-- the operation i sees the block b -/
def Vis (I : Nat → Option Info) (i b : Nat) : Prop := ∃ f, I i = some f ∧ hget f.view b ≠ none
theorem Tra.next_out (t : Tra P call ops T F C I) {j : Nat} (hj : j < ops.size) {f : Info} (hf : I j = some f) : (T (j + 1)).next = f.out.next := by
  obtain ⟨o, ho⟩ := op_at hj
  have := (t.run ho hf).1.after
  rw [this]
theorem Tra.base (t : Tra P call ops T F C I) {i : Nat} (hi : i ≤ ops.size) : (T i).base = (T 0).base ∧ (T i).sy = (T 0).sy := by
  induction i with
  | zero => exact ⟨rfl, rfl⟩
  | succ i ih =>
    obtain ⟨o, ho⟩ := op_at (ops := ops) (j := i) (by omega)
    have ih := ih (by omega)
    cases hI : I i with
    | none => rw [(t.skip ho hI).2.1]; exact ih
    | some f => rw [(t.run ho hI).1.after]; exact ih
theorem Tra.mono1 (t : Tra P call ops T F C I) {j : Nat} (hj : j < ops.size) : (T j).next ≤ (T (j + 1)).next := by
  obtain ⟨o, ho⟩ := op_at hj
  cases hI : I j with
  | none => rw [(t.skip ho hI).2.1]; exact Nat.le_refl _
  | some f => rw [t.next_out hj hI]; exact (t.run ho hI).1.nextLe
theorem Tra.mono (t : Tra P call ops T F C I) {j i : Nat} (h : j ≤ i) (hi : i ≤ ops.size) : (T j).next ≤ (T i).next := by
  induction i with
  | zero => have : j = 0 := by omega
            subst this; exact Nat.le_refl _
  | succ i ih =>
    by_cases q : j = i + 1
    · subst q; exact Nat.le_refl _
    · exact Nat.le_trans (ih (by omega) (by omega)) (t.mono1 (by omega))
/-- what isn't changed stays -/
theorem Tra.same1 (t : Tra P call ops T F C I) {k : Nat} (hk : k < ops.size) {b : Nat} (h : ¬ Chg T I k b) : hget (T (k + 1)) b = hget (T k) b := by
  obtain ⟨o, ho⟩ := op_at hk
  cases hI : I k with
  | none => rw [(t.skip ho hI).2.1]
  | some f =>
    rw [(t.run ho hI).1.after]
    show (copyT _ _ _).get (pathOf b) = _
    rw [copyT_get, if_neg]
    · rfl
    · intro q
      refine h ⟨f, hI, ?_⟩
      rcases List.mem_append.1 q with q | q
      · exact .inl q
      · exact .inr (rangeL_mem.1 q)
theorem Tra.same (t : Tra P call ops T F C I) {b : Nat} : ∀ {m m' : Nat}, m ≤ m' → m' ≤ ops.size → (∀ k, m ≤ k → k < m' → ¬ Chg T I k b) → hget (T m') b = hget (T m) b := by
  intro m m' h hm hc
  induction m' with
  | zero => have : m = 0 := by omega
            subst this; rfl
  | succ i ih =>
    by_cases q : m = i + 1
    · subst q; rfl
    · rw [t.same1 (by omega) (hc i (by omega) (by omega))]
      exact ih (by omega) (by omega) fun k h1 h2 => hc k h1 (by omega)
theorem Tra.chg_out (t : Tra P call ops T F C I) {k : Nat} (hk : k < ops.size) {b : Nat} {f : Info} (hI : I k = some f) (h : Chg T I k b) : hget (T (k + 1)) b = hget f.out b := by
  obtain ⟨o, ho⟩ := op_at hk
  obtain ⟨f', hI', h⟩ := h
  rw [hI] at hI'; cases hI'
  rw [(t.run ho hI).1.after]
  show (copyT _ _ _).get (pathOf b) = _
  rw [copyT_get, if_pos]
  · rfl
  · rw [List.mem_append, rangeL_mem]; exact h
theorem dstOf_some {k : Nat} {o : Oper} (ho : ops[k]? = some o) : dstOf ops k = o.dst := by unfold dstOf; rw [ho]
theorem Tra.slot1 (t : Tra P call ops T F C I) {k : Nat} (hk : k < ops.size) {d : Nat} (h : dstOf ops k ≠ some d) : (F (k + 1)).get (pathOf d) = (F k).get (pathOf d) := by
  obtain ⟨o, ho⟩ := op_at hk
  rw [dstOf_some ho] at h
  have put : ∀ v, (putF (F k) o.dst v).get (pathOf d) = (F k).get (pathOf d) := by
    intro v
    cases hd : o.dst with
    | none => rfl
    | some e =>
      show (Tr.set (some v) (pathOf e) (F k)).get (pathOf d) = _
      rw [Tr.get_set_of, if_neg]
      rintro rfl
      exact h hd
  cases hI : I k with
  | none => rw [(t.skip ho hI).2.2.1]; exact put _
  | some f => rw [(t.run ho hI).2.1]; exact put _
theorem Tra.slot (t : Tra P call ops T F C I) {d : Nat} : ∀ {m m' : Nat}, m ≤ m' → m' ≤ ops.size → (∀ k, m ≤ k → k < m' → dstOf ops k ≠ some d) → (F m').get (pathOf d) = (F m).get (pathOf d) := by
  intro m m' h hm hc
  induction m' with
  | zero => have : m = 0 := by omega
            subst this; rfl
  | succ i ih =>
    by_cases q : m = i + 1
    · subst q; rfl
    · rw [t.slot1 (by omega) (hc i (by omega) (by omega))]
      exact ih (by omega) (by omega) fun k h1 h2 => hc k h1 (by omega)

/-! ### operations that aren't ordered -/
/-- an earlier operation changes what a later one sees: they are ordered -/
theorem Tra.p1 (t : Tra P call ops T F C I) {j i : Nat} (hi : i < ops.size) (hji : j < i) (ho : ordB ops j i = false) {b : Nat} (hc : Chg T I j b) (hv : Vis I i b) : False := by
  obtain ⟨f, hf, hc⟩ := hc
  obtain ⟨g, hg, hv⟩ := hv
  obtain ⟨o, hoi⟩ := op_at hi
  have hr := t.recs (by omega) hji hf
  have R := (t.run hoi hg).1
  cases hcall : g.call with
  | true => exact R.viewHid hcall b hv (hidden_ok hr ho hc)
  | false =>
    have hp := (pairsOk_ok R.pairs hr ho).1 hcall
    have hb := R.viewTch hcall b hv
    rcases hc with hc | hc
    · exact hp.1 b hb hc
    · have := hp.2 b hb
      simp only [recOf] at this
      omega
/-- a later operation changes what an earlier one sees: they are ordered -/
theorem Tra.p2 (t : Tra P call ops T F C I) {i k : Nat} (hk : k < ops.size) (hik : i < k) (ho : ordB ops i k = false) {b : Nat} (hb : b < (T i).next) (hv : Vis I i b) (hc : Chg T I k b) : False := by
  obtain ⟨f, hf, hv⟩ := hv
  obtain ⟨g, hg, hc⟩ := hc
  obtain ⟨o, hok⟩ := op_at hk
  obtain ⟨oi, hoi⟩ := op_at (ops := ops) (j := i) (by omega)
  have hr := t.recs (by omega) hik hf
  have R := (t.run hok hg).1
  have Ri := (t.run hoi hf).1
  have m1 := t.mono1 (j := i) (by omega)
  have m2 := t.mono (j := i + 1) (i := k) (by omega) (by omega)
  have e := t.next_out (by omega) hf
  rcases hc with hc | hc
  · have hp := (pairsOk_ok R.pairs hr ho).2
    cases hcall : f.call with
    | true =>
      have := hp.1 hcall b hc
      simp only [recOf] at this
      omega
    | false => exact hp.2 hcall b hc (Ri.viewTch hcall b hv)
  · omega
/-- two operations change one block: they are ordered -/
theorem Tra.p3 (t : Tra P call ops T F C I) {j i : Nat} (hi : i < ops.size) (hji : j < i) (ho : ordB ops j i = false) {b : Nat} (hc : Chg T I j b) (hd : Chg T I i b) : False := by
  obtain ⟨f, hf, hc⟩ := hc
  obtain ⟨g, hg, hd⟩ := hd
  obtain ⟨o, hoi⟩ := op_at hi
  obtain ⟨oj, hoj⟩ := op_at (ops := ops) (j := j) (by omega)
  have hr := t.recs (by omega) hji hf
  have R := (t.run hoi hg).1
  have Rj := (t.run hoj hf).1
  have m1 := t.mono1 (j := j) (by omega)
  have m2 := t.mono (j := j + 1) (i := i) (by omega) (by omega)
  have e := t.next_out (by omega) hf
  rcases hd with hd | hd
  · cases hcall : g.call with
    | true => rw [R.callWr hcall] at hd; cases hd
    | false =>
      have hp := (pairsOk_ok R.pairs hr ho).1 hcall
      have hb := R.wrTch b hd
      rcases hc with hc | hc
      · exact hp.1 b hb hc
      · have := hp.2 b hb
        simp only [recOf] at this
        omega
  · rcases hc with hc | hc
    · have := Rj.wrLt b hc
      omega
    · omega
end
end Go.Proofs.YtlnfollgpbcafaaGreatDoor.Xq
