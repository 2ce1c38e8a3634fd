import Derived.Test.YtlnfollgpbcafaaGreatDoorXqD
import Derived.Laws.CopyRow
import Derived.Laws.Cells
set_option autoImplicit false
set_option linter.unusedVariables false
/-! The operations: what the executor says of them is what the machine does. First: operands, atoms, memory. -/
namespace Go.Proofs.YtlnfollgpbcafaaGreatDoor.Xq
open Go

section
variable {P : Program} {E : Env} {s : St} {w : World}

theorem evalO_ok (hR : Rel P E s w) {fr : Fr} {a : Act} (hf : FrRel E fr a.tmps) (x : Operand) : VR E (evalO P s fr x) (a.eval x) := by
  cases x with
  | tmp t =>
    show VR E (orec .any (fun v => v) (fr.get (pathOf t))) (a.tmps.getD t undef)
    cases h : fr.get (pathOf t) with
    | none => trivial
    | some v =>
      obtain ⟨y, hy, hv⟩ := hf t v h
      have e : a.tmps.getD t undef = y := by simp [hy]
      rw [e]; exact hv
  | const v => exact VR.ofValue E v
  | global g =>
    show VR E (eGlobal g P s fr) (.pointer (some ⟨g, 0, none⟩))
    unfold eGlobal
    split
    · rename_i hg
      split
      · rename_i o ho
        obtain ⟨r, c, e, _⟩ := hR.heap g o ho
        have := hR.glob g r c (by have := ble_iff.1 hg; omega) e
        subst this
        exact ⟨r, c, e, rfl⟩
      · trivial
    · trivial
  | func f => exact ⟨#[], rfl, VRL.nil⟩

theorem evalL_ok (hR : Rel P E s w) {fr : Fr} {a : Act} (hf : FrRel E fr a.tmps) (l : List Operand) : VRL E (mapL (evalO P s fr) l) (l.map a.eval) := by
  rw [mapL_eq]; exact VRL.map _ _ l fun x _ => evalO_ok hR hf x

/-! ### atoms -/
theorem SyOk.ivSet (hy : SyOk E s.sy) {i : Nat} {lo hi n : Int} (e : E.σ i = some n) (h0 : lo ≤ n) (h1 : n ≤ hi) : SyOk E (ivSet s i lo hi).sy where
  fresh := hy.fresh
  ints := fun j a b h => by
    have h' : Tr.get (pathOf j) (Tr.set (some (lo, hi)) (pathOf i) s.sy.ints) = some (a, b) := h
    rw [Tr.get_set_of] at h'
    by_cases c : i = j
    · subst c; rw [if_pos rfl] at h'; cases h'; exact ⟨n, e, h0, h1⟩
    · rw [if_neg c] at h'; exact hy.ints j a b h'
  memo := hy.memo
  known := hy.known
  excl := hy.excl
theorem Refn.ivSet (s : St) (i : Nat) (lo hi : Int) : Refn s (ivSet s i lo hi) := ⟨rfl, rfl, rfl, rfl⟩
theorem SyOk.known' (hy : SyOk E s.sy) {i l n : Nat} (h : (E.ς i).data.toList.length = l ∧ num (E.ς i).data.toList 0 = n) : SyOk E (sfSet s i (.known l n)).sy where
  fresh := hy.fresh
  ints := hy.ints
  memo := hy.memo
  known := fun j a b k => by
    have k' : Tr.get (pathOf j) (Tr.set (some (.known l n)) (pathOf i) s.sy.strs) = some (.known a b) := k
    rw [Tr.get_set_of] at k'
    by_cases c : i = j
    · subst c; rw [if_pos rfl] at k'; cases k'; exact h
    · rw [if_neg c] at k'; exact hy.known j a b k'
  excl := fun j a k => by
    have k' : Tr.get (pathOf j) (Tr.set (some (.known l n)) (pathOf i) s.sy.strs) = some (.excl a) := k
    rw [Tr.get_set_of] at k'
    by_cases c : i = j
    · subst c; rw [if_pos rfl] at k'; cases k'
    · rw [if_neg c] at k'; exact hy.excl j a k'
theorem SyOk.excl' (hy : SyOk E s.sy) {i l n : Nat} {ls : List (Nat × Nat)} (h : ¬ ((E.ς i).data.toList.length = l ∧ num (E.ς i).data.toList 0 = n)) (hl : s.sy.strs.get (pathOf i) = some (.excl ls)) :
    SyOk E (sfSet s i (.excl ((l, n) :: ls))).sy where
  fresh := hy.fresh
  ints := hy.ints
  memo := hy.memo
  known := fun j a b k => by
    have k' : Tr.get (pathOf j) (Tr.set (some (.excl ((l, n) :: ls))) (pathOf i) s.sy.strs) = some (.known a b) := k
    rw [Tr.get_set_of] at k'
    by_cases c : i = j
    · subst c; rw [if_pos rfl] at k'; cases k'
    · rw [if_neg c] at k'; exact hy.known j a b k'
  excl := fun j a k => by
    have k' : Tr.get (pathOf j) (Tr.set (some (.excl ((l, n) :: ls))) (pathOf i) s.sy.strs) = some (.excl a) := k
    rw [Tr.get_set_of] at k'
    by_cases c : i = j
    · subst c; rw [if_pos rfl] at k'; cases k'
      intro x hx
      rcases List.mem_cons.1 hx with rfl | hx
      · exact h
      · exact hy.excl i ls hl x hx
    · rw [if_neg c] at k'; exact hy.excl j a k'
theorem Refn.sfSet (s : St) (i : Nat) (f : SF) : Refn s (sfSet s i f) := ⟨rfl, rfl, rfl, rfl⟩

variable {R : Type} {A : Ans R} {Pr : R → Prop}

theorem symLt_ok (hA : Lawful A Pr) {i : Nat} {c : Int} {f : Bool → St → R} (hy : SyOk E s.sy) (h : Pr (symLt A s i c f)) :
    ∃ n s', E.σ i = some n ∧ Refn s s' ∧ SyOk E s'.sy ∧ Pr (f (decide (n < c)) s') := by
  unfold symLt at h
  split at h
  · exact (hA.fail _ h).elim
  · rename_i lo hi hiv
    obtain ⟨n, e, h0, h1⟩ := hy.ints i lo hi hiv
    split at h
    · rename_i hc
      have := ilt_true hc
      exact ⟨n, s, e, Refn.refl s, hy, by rw [decide_eq_true (by omega)]; exact h⟩
    · split at h
      · rename_i hc
        have := ilt_false hc
        exact ⟨n, s, e, Refn.refl s, hy, by rw [decide_eq_false (by omega)]; exact h⟩
      · obtain ⟨ha, hb⟩ := hA.fork _ _ _ h
        by_cases hlt : n < c
        · exact ⟨n, _, e, Refn.ivSet s i lo (c - 1), hy.ivSet e h0 (by omega), by rw [decide_eq_true hlt]; exact ha⟩
        · exact ⟨n, _, e, Refn.ivSet s i c hi, hy.ivSet e (by omega) h1, by rw [decide_eq_false hlt]; exact hb⟩
theorem symEq_ok (hA : Lawful A Pr) {i : Nat} {c : Int} {f : Bool → St → R} (hy : SyOk E s.sy) (h : Pr (symEq A s i c f)) :
    ∃ n s', E.σ i = some n ∧ Refn s s' ∧ SyOk E s'.sy ∧ Pr (f (decide (n = c)) s') := by
  unfold symEq at h
  obtain ⟨n, s1, e, r1, hy1, h1⟩ := symLt_ok hA hy h
  by_cases hlt : n < c
  · rw [decide_eq_true hlt] at h1
    exact ⟨n, s1, e, r1, hy1, by rw [decide_eq_false (by omega)]; exact h1⟩
  · rw [decide_eq_false hlt] at h1
    obtain ⟨m, s2, e2, r2, hy2, h2⟩ := symLt_ok hA hy1 h1
    obtain rfl : n = m := Option.some.inj (e.symm.trans e2)
    refine ⟨n, s2, e, r1.trans r2, hy2, ?_⟩
    have : decide (n < c + 1) = decide (n = c) := by
      by_cases q : n = c
      · rw [decide_eq_true q, decide_eq_true (by omega)]
      · rw [decide_eq_false q, decide_eq_false (by omega)]
    rw [this] at h2; exact h2
theorem concI_ok (hA : Lawful A Pr) {i : Nat} {f : Int → St → R} (hy : SyOk E s.sy) (h : Pr (concI A s i f)) :
    ∃ n s', E.σ i = some n ∧ Refn s s' ∧ SyOk E s'.sy ∧ Pr (f n s') := by
  unfold concI at h
  split at h
  · exact (hA.fail _ h).elim
  · rename_i lo hi hiv
    obtain ⟨n, e, h0, h1⟩ := hy.ints i lo hi hiv
    have key : ∀ (m : Nat) (lo : Int) (s1 : St), Refn s s1 → SyOk E s1.sy → lo ≤ n →
        Pr (nrec (β := Int → St → R) (fun _ _ => A.fail "too many cases") (fun _ again lo s => match ilt lo hi with
          | false => f lo s
          | true => A.fork (.int i lo) (f lo (ivSet s i lo lo)) (again (lo + 1) (ivSet s i (lo + 1) hi))) m lo s1) →
        ∃ n s', E.σ i = some n ∧ Refn s s' ∧ SyOk E s'.sy ∧ Pr (f n s') := by
      intro m
      induction m with
      | zero => intro lo s1 _ _ _ h; exact (hA.fail _ h).elim
      | succ m ih =>
        intro lo s1 r1 hy1 hlo h
        have h' : Pr (match ilt lo hi with
          | false => f lo s1
          | true => A.fork (.int i lo) (f lo (ivSet s1 i lo lo)) (nrec (β := Int → St → R) (fun _ _ => A.fail "too many cases") (fun _ again lo s => match ilt lo hi with
            | false => f lo s
            | true => A.fork (.int i lo) (f lo (ivSet s i lo lo)) (again (lo + 1) (ivSet s i (lo + 1) hi))) m (lo + 1) (ivSet s1 i (lo + 1) hi))) := h
        split at h'
        · rename_i hc
          have := ilt_false hc
          obtain rfl : n = lo := by omega
          exact ⟨n, s1, e, r1, hy1, h'⟩
        · obtain ⟨ha, hb⟩ := hA.fork _ _ _ h'
          by_cases q : n = lo
          · subst q
            exact ⟨n, _, e, r1.trans (Refn.ivSet s1 i _ _), hy1.ivSet e (Int.le_refl _) (Int.le_refl _), ha⟩
          · exact ih (lo + 1) _ (r1.trans (Refn.ivSet s1 i _ _)) (hy1.ivSet e (by omega) h1) (by omega) hb
    exact key 64 lo s (Refn.refl s) hy h0 h
/-- a value that is an integer -/
theorem getI_ok (hA : Lawful A Pr) {v : AV} {x : Value} {f : Int → St → R} (hv : VR E v x) (hy : SyOk E s.sy) (h : Pr (getI A s v f)) :
    ∃ k n s', x = .int k n ∧ Refn s s' ∧ SyOk E s'.sy ∧ Pr (f n s') := by
  unfold getI at h
  split at h
  · rename_i k n
    exact ⟨k, n, s, hv, Refn.refl s, hy, h⟩
  · rename_i i
    obtain ⟨n, s1, e, r1, hy1, h1⟩ := concI_ok hA hy h
    obtain ⟨m, e2, rfl⟩ := hv
    obtain rfl : n = m := Option.some.inj (e.symm.trans e2)
    exact ⟨.i64, n, s1, rfl, r1, hy1, h1⟩
  · exact (hA.fail _ h).elim
theorem getN_ok (hA : Lawful A Pr) {v : AV} {x : Value} {f : Nat → St → R} (hv : VR E v x) (hy : SyOk E s.sy) (h : Pr (getN A s v f)) :
    ∃ k n s', x = .int k (n : Nat) ∧ Refn s s' ∧ SyOk E s'.sy ∧ Pr (f n s') := by
  unfold getN at h
  obtain ⟨k, n, s1, rfl, r1, hy1, h1⟩ := getI_ok hA hv hy h
  split at h1
  · rename_i m
    exact ⟨k, m, s1, rfl, r1, hy1, h1⟩
  · exact (hA.fail _ h1).elim

/-! ### strings -/
theorem inL_true {l n : Nat} {ls : List (Nat × Nat)} (h : inL l n ls = true) : (l, n) ∈ ls := by
  induction ls with
  | nil => cases h
  | cons x ls ih =>
    have h' : (match strEq l n x.1 x.2 with | true => true | false => inL l n ls) = true := h
    split at h'
    · rename_i hq
      unfold strEq at hq
      split at hq
      · rename_i hl
        have e1 := Nat.eq_of_beq_eq_true hl
        have e2 := Nat.eq_of_beq_eq_true hq
        rw [e1, e2]; exact List.mem_cons_self
      · cases hq
    · exact List.mem_cons_of_mem _ (ih h')
theorem symStr_ok (hA : Lawful A Pr) {i l n : Nat} {f : Bool → St → R} (hy : SyOk E s.sy) (h : Pr (symStr A s i l n f)) :
    ∃ s', Refn s s' ∧ SyOk E s'.sy ∧ Pr (f (strEq (E.ς i).data.toList.length (num (E.ς i).data.toList 0) l n) s') := by
  have yes : ∀ {a b : Nat}, strEq a b a b = true := by intro a b; unfold strEq; simp
  have no : ∀ {a b : Nat}, ¬ (a = l ∧ b = n) → strEq a b l n = false := by
    intro a b hn
    unfold strEq
    split
    · rename_i hl
      cases hb : Nat.beq b n
      · rfl
      · exact (hn ⟨Nat.eq_of_beq_eq_true hl, Nat.eq_of_beq_eq_true hb⟩).elim
    · rfl
  unfold symStr at h
  split at h
  · exact (hA.fail _ h).elim
  · rename_i l' n' hk
    obtain ⟨e1, e2⟩ := hy.known i l' n' hk
    exact ⟨s, Refn.refl s, hy, by rw [e1, e2]; exact h⟩
  · rename_i ls hk
    split at h
    · rename_i hin
      have := hy.excl i ls hk _ (inL_true hin)
      exact ⟨s, Refn.refl s, hy, by rw [no this]; exact h⟩
    · obtain ⟨ha, hb⟩ := hA.fork _ _ _ h
      by_cases q : (E.ς i).data.toList.length = l ∧ num (E.ς i).data.toList 0 = n
      · exact ⟨_, Refn.sfSet s i _, hy.known' q, by rw [q.1, q.2, yes]; exact ha⟩
      · exact ⟨_, Refn.sfSet s i _, hy.excl' q hk, by rw [no q]; exact hb⟩
/-- two strings: are they equal? -/
theorem eqS_ok (hA : Lawful A Pr) {v u : AV} {x y : Value} {f : Bool → St → R} (hv : VR E v x) (hu : VR E u y) (hy : SyOk E s.sy) (h : Pr (eqS A s v u f)) :
    ∃ (a b : ByteArray) (s' : St), x = .string a ∧ y = .string b ∧ Refn s s' ∧ SyOk E s'.sy ∧ Pr (f (a.data.toList == b.data.toList) s') := by
  unfold eqS at h
  split at h
  · obtain ⟨a, rfl, rfl, rfl⟩ := hv
    obtain ⟨b, rfl, rfl, rfl⟩ := hu
    exact ⟨a, b, s, rfl, rfl, Refn.refl s, hy, by rw [← strEq_iff]; exact h⟩
  · obtain ⟨rfl, _⟩ := hv
    obtain ⟨b, rfl, rfl, rfl⟩ := hu
    obtain ⟨s1, r1, hy1, h1⟩ := symStr_ok hA hy h
    exact ⟨_, b, s1, rfl, rfl, r1, hy1, by rw [← strEq_iff]; exact h1⟩
  · obtain ⟨a, rfl, rfl, rfl⟩ := hv
    obtain ⟨rfl, _⟩ := hu
    obtain ⟨s1, r1, hy1, h1⟩ := symStr_ok hA hy h
    refine ⟨a, _, s1, rfl, rfl, r1, hy1, ?_⟩
    rw [← strEq_iff]
    have : ∀ a b c d : Nat, strEq a b c d = strEq c d a b := by
      intro a b c d
      rw [Bool.eq_iff_iff]
      unfold strEq
      constructor <;> intro hq <;> split at hq <;> simp_all
    rw [this]; exact h1
  · exact (hA.fail _ h).elim
theorem eqI_ok (hA : Lawful A Pr) {v u : AV} {x y : Value} {f : Bool → St → R} (hv : VR E v x) (hu : VR E u y) (hy : SyOk E s.sy) (h : Pr (eqI A s v u f)) :
    ∃ (k : IntKind) (a b : Int) (s' : St), x = .int k a ∧ y = .int k b ∧ Refn s s' ∧ SyOk E s'.sy ∧ Pr (f (a == b) s') := by
  unfold eqI at h
  split at h
  · split at h
    · rename_i hk
      have := kIdx_eq hk; subst this
      exact ⟨_, _, _, s, hv, hu, Refn.refl s, hy, by rw [← ieq_beq]; exact h⟩
    · exact (hA.fail _ h).elim
  · split at h
    · obtain ⟨n, s1, e, r1, hy1, h1⟩ := symEq_ok hA hy h
      obtain ⟨m, e2, rfl⟩ := hv
      obtain rfl : n = m := Option.some.inj (e.symm.trans e2)
      exact ⟨.i64, _, _, s1, rfl, hu, r1, hy1, h1⟩
    · exact (hA.fail _ h).elim
  · split at h
    · obtain ⟨n, s1, e, r1, hy1, h1⟩ := symEq_ok hA hy h
      obtain ⟨m, e2, rfl⟩ := hu
      obtain rfl : n = m := Option.some.inj (e.symm.trans e2)
      refine ⟨.i64, _, _, s1, hv, rfl, r1, hy1, ?_⟩
      have : ∀ b : Int, (b == n) = decide (n = b) := fun b => by rw [Bool.eq_iff_iff, beq_iff_eq, decide_eq_true_iff]; exact eq_comm
      rw [this]; exact h1
    · exact (hA.fail _ h).elim
  · exact (hA.fail _ h).elim
theorem ltI_ok (hA : Lawful A Pr) {v u : AV} {x y : Value} {f : Bool → St → R} (hv : VR E v x) (hu : VR E u y) (hy : SyOk E s.sy) (h : Pr (ltI A s v u f)) :
    ∃ (k : IntKind) (a b : Int) (s' : St), x = .int k a ∧ y = .int k b ∧ Refn s s' ∧ SyOk E s'.sy ∧ Pr (f (decide (a < b)) s') := by
  unfold ltI at h
  split at h
  · split at h
    · rename_i hk
      have := kIdx_eq hk; subst this
      exact ⟨_, _, _, s, hv, hu, Refn.refl s, hy, by rw [← ilt_iff]; exact h⟩
    · exact (hA.fail _ h).elim
  · split at h
    · obtain ⟨n, s1, e, r1, hy1, h1⟩ := symLt_ok hA hy h
      obtain ⟨m, e2, rfl⟩ := hv
      obtain rfl : n = m := Option.some.inj (e.symm.trans e2)
      exact ⟨.i64, _, _, s1, rfl, hu, r1, hy1, h1⟩
    · exact (hA.fail _ h).elim
  · split at h
    · obtain ⟨n, s1, e, r1, hy1, h1⟩ := symLt_ok hA hy h
      obtain ⟨m, e2, rfl⟩ := hu
      obtain rfl : n = m := Option.some.inj (e.symm.trans e2)
      refine ⟨.i64, _, _, s1, hv, rfl, r1, hy1, ?_⟩
      have : ∀ b : Int, bnot (decide (n < b + 1)) = decide (b < n) := fun b => by
        rw [bnot_eq]
        by_cases q : b < n
        · rw [decide_eq_true q, decide_eq_false (by omega)]; rfl
        · rw [decide_eq_false q, decide_eq_true (by omega)]; rfl
      rw [this] at h1; exact h1
    · exact (hA.fail _ h).elim
  · exact (hA.fail _ h).elim
end
end Go.Proofs.YtlnfollgpbcafaaGreatDoor.Xq
