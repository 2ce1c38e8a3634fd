import Derived.Test.YtlnfollgpbcafaaGreatDoorXqQ
set_option autoImplicit false
set_option linter.unusedVariables false
/-! Regions that draw their order: lists, the order. -/
namespace Go.Proofs.YtlnfollgpbcafaaGreatDoor.Xq
open Go

/-! ### lists and tries -/
theorem bnot_iff {b : Bool} : bnot b = true ↔ b = false := by cases b <;> decide
theorem disjL_iff {l m : List Nat} : disjL l m = true ↔ ∀ x ∈ l, x ∉ m := by
  unfold disjL
  rw [allL_iff]
  refine ⟨fun h x hx hm => ?_, fun h x hx => ?_⟩
  · have := bnot_iff.1 (h x hx)
    rw [(memL_iff _ _).2 hm] at this; cases this
  · rw [bnot_iff]
    cases hb : memL x m with
    | false => rfl
    | true => exact (h x hx ((memL_iff _ _).1 hb)).elim
theorem outOf_iff {lo hi : Nat} {l : List Nat} : outOf lo hi l = true ↔ ∀ x ∈ l, x < lo ∨ hi ≤ x := by
  unfold outOf
  rw [allL_iff]
  refine ⟨fun h x hx => ?_, fun h x hx => ?_⟩
  · have := h x hx
    split at this
    · rename_i q
      left
      rcases Nat.lt_or_ge x lo with g | g
      · exact g
      · rw [ble_iff.2 g] at q; cases q
    · exact .inr (ble_iff.1 this)
  · split
    · rfl
    · rename_i q
      have := ble_iff.1 q
      rcases h x hx with g | g
      · omega
      · exact ble_iff.2 g
theorem copyT_get (src : Tr AObj) (l : List Nat) (dst : Tr AObj) (b : Nat) : (copyT src l dst).get (pathOf b) = if b ∈ l then src.get (pathOf b) else dst.get (pathOf b) := by
  induction l with
  | nil => rw [if_neg (by simp)]; rfl
  | cons x l ih =>
    have e : copyT src (x :: l) dst = (copyT src l dst).set (src.get (pathOf x)) (pathOf x) := rfl
    rw [e, Tr.get_set_of, ih]
    by_cases hx : x = b
    · subst hx; simp
    · simp [hx, Ne.symm hx]
theorem hideT_get (l : List Nat) (t : Tr AObj) (b : Nat) : (hideT l t).get (pathOf b) = if b ∈ l then none else t.get (pathOf b) := by
  induction l with
  | nil => rw [if_neg (by simp)]; rfl
  | cons x l ih =>
    have e : hideT (x :: l) t = (hideT l t).set none (pathOf x) := rfl
    rw [e, Tr.get_set_of, ih]
    by_cases hx : x = b
    · subst hx; simp
    · simp [hx, Ne.symm hx]
theorem rangeGo_mem (n lo b : Nat) : b ∈ (nrec (fun _ => []) (fun _ ih b => b :: ih (b + 1)) n lo : List Nat) ↔ lo ≤ b ∧ b < lo + n := by
  induction n generalizing lo with
  | zero =>
    have : (nrec (fun _ => []) (fun _ ih b => b :: ih (b + 1)) 0 lo : List Nat) = [] := rfl
    rw [this]; simp
  | succ n ih =>
    have : (nrec (fun _ => []) (fun _ ih b => b :: ih (b + 1)) (n + 1) lo : List Nat) = lo :: nrec (fun _ => []) (fun _ ih b => b :: ih (b + 1)) n (lo + 1) := rfl
    rw [this, List.mem_cons, ih]
    omega
theorem rangeL_mem {lo hi b : Nat} : b ∈ rangeL lo hi ↔ lo ≤ b ∧ b < hi := by
  unfold rangeL
  rw [rangeGo_mem]
  omega

/-! ### the order -/
/-- must j come just before i? -/
def Dir (ops : Array Oper) (j i : Nat) : Prop := ∃ o, ops[i]? = some o ∧ ∃ e ∈ o.after.toList, Region.binds .any e = true ∧ e.on = j
/-- what has been carried out holds what must come before -/
def Closed (ops : Array Oper) (S : Nat → Prop) : Prop := ∀ i, S i → ∀ j, Dir ops j i → S j
theorem bitB_eq (n j : Nat) : bitB n j = n.testBit j := by
  show Nat.beq (n / 2 ^ j % 2) 1 = _
  rw [Nat.testBit_eq_decide_div_mod_eq]
  cases h : Nat.beq (n / 2 ^ j % 2) 1 with
  | true => exact (decide_eq_true (Nat.eq_of_beq_eq_true h)).symm
  | false => exact (decide_eq_false (Nat.ne_of_beq_eq_false h)).symm
theorem bitB_lor (a b j : Nat) : bitB (Nat.lor a b) j = true ↔ bitB a j = true ∨ bitB b j = true := by
  rw [bitB_eq, bitB_eq, bitB_eq]
  show (a ||| b).testBit j = true ↔ _
  rw [Nat.testBit_or]
  simp
theorem bitB_pow (k j : Nat) : bitB (2 ^ k) j = true ↔ k = j := by
  rw [bitB_eq, Nat.testBit_two_pow]
  simp
theorem bitB_zero (j : Nat) : bitB 0 j = false := by
  rw [bitB_eq]; simp
theorem edgeBits_bit {acc : List Nat} {es : List Edge} {j : Nat} (h : bitB (edgeBits acc es) j = true) :
    ∃ e ∈ es, Region.binds .any e = true ∧ (e.on = j ∨ ∃ b, acc[e.on]? = some b ∧ bitB b j = true) := by
  induction es with
  | nil => have : bitB 0 j = true := h; rw [bitB_zero] at this; cases this
  | cons e es ih =>
    have h : bitB (match Region.binds .any e with
      | true => Nat.lor (edgeBits acc es) (Nat.lor (2 ^ e.on) (match nth acc e.on with | some b => b | none => 0))
      | false => edgeBits acc es) j = true := h
    cases hb : Region.binds .any e with
    | false =>
      rw [hb] at h
      obtain ⟨e', he, g⟩ := ih h
      exact ⟨e', List.mem_cons_of_mem _ he, g⟩
    | true =>
      rw [hb] at h
      rcases (bitB_lor _ _ _).1 h with g | g
      · obtain ⟨e', he, g⟩ := ih g
        exact ⟨e', List.mem_cons_of_mem _ he, g⟩
      · refine ⟨e, List.mem_cons_self .., hb, ?_⟩
        rcases (bitB_lor _ _ _).1 g with g | g
        · exact .inl ((bitB_pow _ _).1 g)
        · right
          rw [nth_eq] at g
          split at g
          · rename_i b q; exact ⟨b, q, g⟩
          · rw [bitB_zero] at g; cases g
/-- the bits of an operation's entry: what must come before it -/
def BitsOk (ops : Array Oper) (acc : List Nat) : Prop := ∀ k b, acc[k]? = some b → ∀ j, bitB b j = true → ∀ S, Closed ops S → (∀ m, Dir ops m k → S m) → S j
theorem befGo_ok {ops : Array Oper} : ∀ (l : List Oper) (acc : List Nat), ops.toList.drop acc.length = l → BitsOk ops acc → BitsOk ops (befGo l acc)
  | [], acc, _, h => h
  | o :: l, acc, hl, h => by
    have ho : ops[acc.length]? = some o := by
      have := congrArg (·[0]?) hl
      simpa using this
    have e : befGo (o :: l) acc = befGo l (appL acc [edgeBits acc o.after.toList]) := rfl
    rw [e, appL_eq]
    refine befGo_ok l _ ?_ ?_
    · have := congrArg (List.drop 1) hl
      simpa [List.drop_drop, Nat.add_comm] using this
    · intro k b hk j hj S hS hd
      rcases Nat.lt_trichotomy k acc.length with g | g | g
      · rw [List.getElem?_append_left g] at hk
        exact h k b hk j hj S hS hd
      · subst g
        rw [List.getElem?_append_right (Nat.le_refl _)] at hk
        simp at hk
        subst hk
        obtain ⟨e, he, hb, hc⟩ := edgeBits_bit hj
        have hS1 : S e.on := hd _ ⟨o, ho, e, he, hb, rfl⟩
        rcases hc with rfl | ⟨b, hb, hj⟩
        · exact hS1
        · exact h _ b hb j hj S hS fun m hm => hS _ hS1 m hm
      · rw [List.getElem?_eq_none (by simp; omega)] at hk; cases hk
theorem ordB_ok {ops : Array Oper} {j i : Nat} (h : ordB ops j i = true) {S : Nat → Prop} (hS : Closed ops S) (hd : ∀ m, Dir ops m i → S m) : S j := by
  unfold ordB at h
  rw [nth_eq] at h
  split at h
  · rename_i b hb
    have : BitsOk ops (bef ops) := befGo_ok ops.toList [] rfl (fun k b hk => by simp at hk)
    exact this i b hb j h S hS hd
  · cases h
theorem backOk_ok {ops : Array Oper} (h : backOk ops = true) {j i : Nat} (hd : Dir ops j i) : j < i := by
  have go : ∀ (l : List Oper) (k : Nat), (lrec (fun _ => true) (fun (o : Oper) _ ih (i : Nat) => match allL (fun (e : Edge) => match Region.binds .any e with | true => Nat.ble (e.on + 1) i | false => true) o.after.toList with
      | true => ih (i + 1)
      | false => false) l k) = true → ∀ m o, l[m]? = some o → ∀ e ∈ o.after.toList, Region.binds .any e = true → e.on < k + m := by
    intro l
    induction l with
    | nil => intro k _ m o ho; simp at ho
    | cons x l ih =>
      intro k hk m o ho e he hb
      have hk : (match allL (fun (e : Edge) => match Region.binds .any e with | true => Nat.ble (e.on + 1) k | false => true) x.after.toList with
        | true => lrec (fun _ => true) (fun (o : Oper) _ ih (i : Nat) => match allL (fun (e : Edge) => match Region.binds .any e with | true => Nat.ble (e.on + 1) i | false => true) o.after.toList with
            | true => ih (i + 1)
            | false => false) l (k + 1)
        | false => false) = true := hk
      split at hk
      · rename_i hall
        cases m with
        | zero =>
          simp at ho
          subst ho
          have := (allL_iff _ _).1 hall e he
          rw [hb] at this
          have := ble_iff.1 this
          omega
        | succ m =>
          have := ih (k + 1) hk m o (by simpa using ho) e he hb
          omega
      · cases hk
  obtain ⟨o, ho, e, he, hb, rfl⟩ := hd
  have := go ops.toList 0 h i o (by simpa using ho) e he hb
  omega
/-- do two operations use slots apart? -/
def ApartS (ops : Array Oper) (x y : Oper) : Prop := (∀ d, x.dst = some d → d ∉ readsOf ops y ∧ y.dst ≠ some d) ∧ ∀ d, y.dst = some d → d ∉ readsOf ops x
theorem apartO_ok {ops : Array Oper} {x y : Oper} (h : apartO ops x y = true) : ApartS ops x y := by
  unfold apartO at h
  split at h
  · cases h
  · rename_i h1
    constructor
    · intro d hd
      rw [hd] at h1
      dsimp only at h1
      split at h1
      · cases h1
      · rename_i h2
        refine ⟨fun q => ?_, fun q => ?_⟩
        · rw [(memL_iff _ _).2 q] at h2; cases h2
        · rw [q] at h1
          have h1 : bnot (Nat.beq d d) = true := h1
          rw [Nat.beq_refl] at h1; cases h1
    · intro d hd
      rw [hd] at h
      have h : bnot (memL d (readsOf ops x)) = true := h
      intro q
      rw [(memL_iff _ _).2 q] at h; cases h
theorem tmpsOk_ok {ops : Array Oper} (h : tmpsOk ops = true) {j i : Nat} {x y : Oper} (hji : j < i) (hx : ops[j]? = some x) (hy : ops[i]? = some y) (ho : ordB ops j i = false) : ApartS ops x y := by
  have pair : ∀ (done : List (Nat × Oper)) (o : Oper) (i : Nat), (lrec true (fun (jx : Nat × Oper) _ ih => match ordB ops jx.1 i with
      | true => ih
      | false => match apartO ops jx.2 o with | true => ih | false => false) done) = true → ∀ p ∈ done, ordB ops p.1 i = false → apartO ops p.2 o = true := by
    intro done o i
    induction done with
    | nil => intro _ p hp; cases hp
    | cons q done ih =>
      intro hq p hp ho
      have hq : (match ordB ops q.1 i with
        | true => lrec true (fun (jx : Nat × Oper) _ ih => match ordB ops jx.1 i with
            | true => ih
            | false => match apartO ops jx.2 o with | true => ih | false => false) done
        | false => match apartO ops q.2 o with
          | true => lrec true (fun (jx : Nat × Oper) _ ih => match ordB ops jx.1 i with
            | true => ih
            | false => match apartO ops jx.2 o with | true => ih | false => false) done
          | false => false) = true := hq
      rcases List.mem_cons.1 hp with rfl | hp
      · rw [ho] at hq
        dsimp only at hq
        split at hq
        · assumption
        · cases hq
      · split at hq
        · exact ih hq p hp ho
        · split at hq
          · exact ih hq p hp ho
          · cases hq
  have go : ∀ (l : List Oper) (done : List (Nat × Oper)) (k : Nat), (lrec (fun _ _ => true) (fun (o : Oper) _ ih (done : List (Nat × Oper)) (i : Nat) => match lrec true (fun (jx : Nat × Oper) _ ih => match ordB ops jx.1 i with
      | true => ih
      | false => match apartO ops jx.2 o with | true => ih | false => false) done with
      | false => false
      | true => ih ((i, o) :: done) (i + 1)) l done k) = true → ∀ m y, l[m]? = some y → ∀ p, (p ∈ done ∨ ∃ m', m' < m ∧ ∃ o, l[m']? = some o ∧ p = (k + m', o)) → ordB ops p.1 (k + m) = false → apartO ops p.2 y = true := by
    intro l
    induction l with
    | nil => intro done k _ m y hy; simp at hy
    | cons o l ih =>
      intro done k hk m y hy p hp hord
      have hk : (match lrec true (fun (jx : Nat × Oper) _ ih => match ordB ops jx.1 k with
        | true => ih
        | false => match apartO ops jx.2 o with | true => ih | false => false) done with
        | false => false
        | true => lrec (fun _ _ => true) (fun (o : Oper) _ ih (done : List (Nat × Oper)) (i : Nat) => match lrec true (fun (jx : Nat × Oper) _ ih => match ordB ops jx.1 i with
            | true => ih
            | false => match apartO ops jx.2 o with | true => ih | false => false) done with
            | false => false
            | true => ih ((i, o) :: done) (i + 1)) l ((k, o) :: done) (k + 1)) = true := hk
      split at hk
      · cases hk
      · rename_i hpair
        cases m with
        | zero =>
          simp at hy
          subst hy
          rcases hp with hp | ⟨m', hm', _⟩
          · exact pair done _ k hpair p hp hord
          · omega
        | succ m =>
          refine ih _ _ hk m y (by simpa using hy) p ?_ (by rw [Nat.add_assoc, Nat.add_comm 1 m]; exact hord)
          rcases hp with hp | ⟨m', hm', o', ho', rfl⟩
          · exact .inl (List.mem_cons_of_mem _ hp)
          · cases m' with
            | zero => simp at ho'; subst ho'; exact .inl (List.mem_cons_self ..)
            | succ m' => exact .inr ⟨m', by omega, o', by simpa using ho', by rw [Nat.add_assoc, Nat.add_comm 1 m']⟩
  have := go ops.toList [] 0 h i y (by simpa using hy) (j, x) (.inr ⟨j, hji, x, by simpa using hx, by simp⟩) (by simpa using ho)
  exact apartO_ok this
end Go.Proofs.YtlnfollgpbcafaaGreatDoor.Xq
