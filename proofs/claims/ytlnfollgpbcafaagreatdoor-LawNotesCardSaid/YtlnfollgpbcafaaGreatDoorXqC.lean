import Derived.Test.YtlnfollgpbcafaaGreatDoorXqB
set_option autoImplicit false
set_option linter.unusedVariables false
/-! Plain facts: paths, tries, lists, numbers, strings. -/
namespace Go.Proofs.YtlnfollgpbcafaaGreatDoor.Xq
open Go

/-! ### paths, tries -/
theorem pathGo_zero (f : Nat) : pathGo f 0 = .e := by cases f <;> rfl
theorem pathGo_succ (f m : Nat) : pathGo (f + 1) (m + 1) = (match m % 4 with
      | 0 => .a (pathGo f (m / 4))
      | 1 => .b (pathGo f (m / 4))
      | 2 => .c (pathGo f (m / 4))
      | _ => .d (pathGo f (m / 4))) := rfl
theorem pathGo_inj : ∀ (f g n m : Nat), n ≤ f → m ≤ g → pathGo f n = pathGo g m → n = m := by
  intro f
  induction f with
  | zero =>
    intro g n m hn hm h
    obtain rfl : n = 0 := by omega
    rw [pathGo_zero] at h
    cases m with
    | zero => rfl
    | succ m =>
      obtain ⟨g, rfl⟩ : ∃ k, g = k + 1 := ⟨g - 1, by omega⟩
      rw [pathGo_succ] at h
      split at h <;> cases h
  | succ f ih =>
    intro g n m hn hm h
    cases n with
    | zero =>
      rw [pathGo_zero] at h
      cases m with
      | zero => rfl
      | succ m =>
        obtain ⟨g, rfl⟩ : ∃ k, g = k + 1 := ⟨g - 1, by omega⟩
        rw [pathGo_succ] at h
        split at h <;> cases h
    | succ n =>
      rw [pathGo_succ] at h
      cases m with
      | zero =>
        rw [pathGo_zero] at h
        split at h <;> cases h
      | succ m =>
        obtain ⟨g, rfl⟩ : ∃ k, g = k + 1 := ⟨g - 1, by omega⟩
        rw [pathGo_succ] at h
        have key : n % 4 = m % 4 ∧ pathGo f (n / 4) = pathGo g (m / 4) := by
          have h4 := Nat.mod_lt n (show 0 < 4 by decide)
          have h5 := Nat.mod_lt m (show 0 < 4 by decide)
          generalize n % 4 = a at *
          generalize m % 4 = b at *
          generalize pathGo f (n / 4) = p at *
          generalize pathGo g (m / 4) = q at *
          rcases a with _ | _ | _ | _ | a <;> rcases b with _ | _ | _ | _ | b <;> first | omega | (simp at h; done) | (simp at h; simp [h])
        have := ih g (n / 4) (m / 4) (by omega) (by omega) key.2
        omega
theorem pathOf_inj {n m : Nat} (h : pathOf n = pathOf m) : n = m := pathGo_inj n m n m (Nat.le_refl _) (Nat.le_refl _) h

namespace Tr
variable {α : Type}
theorem get_leaf (p : Path) : Tr.get p (leaf : Tr α) = none := by cases p <;> rfl
theorem get_set_same (y : Option α) (p : Path) (t : Tr α) : Tr.get p (Tr.set y p t) = y := by
  induction p generalizing t with
  | e => cases t <;> rfl
  | a p ih => cases t <;> exact ih _
  | b p ih => cases t <;> exact ih _
  | c p ih => cases t <;> exact ih _
  | d p ih => cases t <;> exact ih _
theorem get_set_ne (y : Option α) (p q : Path) (h : p ≠ q) (t : Tr α) : Tr.get q (Tr.set y p t) = Tr.get q t := by
  induction p generalizing q t with
  | e => cases q <;> cases t <;> first | exact absurd rfl h | rfl | exact get_leaf _
  | a p ih =>
    cases q with
    | a q =>
      have h' : p ≠ q := fun e => h (by rw [e])
      cases t with
      | leaf => exact (ih q h' leaf).trans (get_leaf q)
      | node v a b c d => exact ih q h' a
    | _ => cases t <;> first | rfl | exact get_leaf _
  | b p ih =>
    cases q with
    | b q =>
      have h' : p ≠ q := fun e => h (by rw [e])
      cases t with
      | leaf => exact (ih q h' leaf).trans (get_leaf q)
      | node v a b c d => exact ih q h' b
    | _ => cases t <;> first | rfl | exact get_leaf _
  | c p ih =>
    cases q with
    | c q =>
      have h' : p ≠ q := fun e => h (by rw [e])
      cases t with
      | leaf => exact (ih q h' leaf).trans (get_leaf q)
      | node v a b c d => exact ih q h' c
    | _ => cases t <;> first | rfl | exact get_leaf _
  | d p ih =>
    cases q with
    | d q =>
      have h' : p ≠ q := fun e => h (by rw [e])
      cases t with
      | leaf => exact (ih q h' leaf).trans (get_leaf q)
      | node v a b c d => exact ih q h' d
    | _ => cases t <;> first | rfl | exact get_leaf _
theorem get_set_of (y : Option α) (n m : Nat) (t : Tr α) : Tr.get (pathOf m) (Tr.set y (pathOf n) t) = if n = m then y else Tr.get (pathOf m) t := by
  by_cases h : n = m
  · subst h; rw [if_pos rfl]; exact get_set_same _ _ _
  · rw [if_neg h]; exact get_set_ne _ _ _ (fun e => h (pathOf_inj e)) _
end Tr

/-! ### lists -/
section
variable {α β : Type}
theorem mapL_eq (f : α → β) (l : List α) : mapL f l = l.map f := by
  induction l with
  | nil => rfl
  | cons x l ih => exact congrArg (f x :: ·) ih
theorem lenL_eq (l : List α) : lenL l = l.length := by
  induction l with
  | nil => rfl
  | cons x l ih => exact congrArg (· + 1) ih
theorem appL_eq (l m : List α) : appL l m = l ++ m := by
  induction l with
  | nil => rfl
  | cons x l ih => exact congrArg (x :: ·) ih
theorem nth_eq (l : List α) (n : Nat) : nth l n = l[n]? := by
  induction l generalizing n with
  | nil => rfl
  | cons x l ih => cases n with
    | zero => rfl
    | succ n => exact (ih n).trans (by simp)
theorem dropL_eq (l : List α) (n : Nat) : dropL l n = l.drop n := by
  induction l generalizing n with
  | nil => cases n <;> rfl
  | cons x l ih => cases n with
    | zero => rfl
    | succ n => exact (ih n).trans (by simp)
theorem takeL_eq (l : List α) (n : Nat) : takeL l n = l.take n := by
  induction l generalizing n with
  | nil => cases n <;> rfl
  | cons x l ih => cases n with
    | zero => rfl
    | succ n => exact (congrArg (x :: ·) (ih n)).trans (by simp)
theorem overL_eq (ys l : List α) (h : ys.length ≤ l.length) : overL ys l = ys ++ l.drop ys.length := by
  induction l generalizing ys with
  | nil => cases ys with
    | nil => rfl
    | cons y ys => simp at h
  | cons x l ih => cases ys with
    | nil => rfl
    | cons y ys => exact (congrArg (y :: ·) (ih ys (by simpa using h))).trans (by simp)
theorem putL_eq (ys l : List α) (n : Nat) (h : n + ys.length ≤ l.length) : putL ys l n = l.take n ++ ys ++ l.drop (n + ys.length) := by
  induction l generalizing n with
  | nil =>
    simp at h
    obtain ⟨rfl, rfl⟩ := h
    rfl
  | cons x l ih => cases n with
    | zero => exact (overL_eq ys (x :: l) (by simpa using h)).trans (by simp)
    | succ n => exact (congrArg (x :: ·) (ih n (by simp at h; omega))).trans (by simp [show n + 1 + ys.length = n + ys.length + 1 by omega])
theorem allL_iff (f : α → Bool) (l : List α) : allL f l = true ↔ ∀ x ∈ l, f x = true := by
  induction l with
  | nil => simp [allL, lrec]
  | cons x l ih =>
    have e : allL f (x :: l) = match f x with | true => allL f l | false => false := rfl
    rw [e]
    cases h : f x <;> simp [h, ih]
theorem repL_zero (z : List α) : repL z 0 = [] := rfl
theorem repL_succ (z : List α) (n : Nat) : repL z (n + 1) = z ++ repL z n := appL_eq _ _
theorem repL_length (z : List α) (n : Nat) : (repL z n).length = n * z.length := by
  induction n with
  | zero => simp [repL_zero]
  | succ n ih => rw [repL_succ, List.length_append, ih, Nat.succ_mul, Nat.add_comm]
theorem memL_iff (x : Nat) (l : List Nat) : memL x l = true ↔ x ∈ l := by
  induction l with
  | nil => simp [memL, lrec]
  | cons y l ih =>
    have e : memL x (y :: l) = match Nat.beq x y with | true => true | false => memL x l := rfl
    rw [e]
    cases h : Nat.beq x y
    · have : x ≠ y := Nat.ne_of_beq_eq_false h
      simp [ih, this]
    · have : x = y := Nat.eq_of_beq_eq_true h
      simp [this]
end

/-! ### numbers -/
theorem ble_iff {a b : Nat} : Nat.ble a b = true ↔ a ≤ b := by rw [Nat.ble_eq]
theorem bnot_eq (b : Bool) : bnot b = !b := by cases b <;> rfl
theorem ilt_iff (a b : Int) : ilt a b = decide (a < b) := by
  cases a with
  | ofNat a => cases b with
    | ofNat b =>
      show Nat.ble (a + 1) b = _
      rw [Bool.eq_iff_iff, ble_iff, decide_eq_true_iff]
      exact ⟨fun h => by simp; omega, fun h => by simp at h; omega⟩
    | negSucc b =>
      show false = _
      symm; rw [decide_eq_false_iff_not]; simp; omega
  | negSucc a => cases b with
    | ofNat b =>
      show true = _
      symm; rw [decide_eq_true_iff]; simp; omega
    | negSucc b =>
      show Nat.ble (b + 1) a = _
      rw [Bool.eq_iff_iff, ble_iff, decide_eq_true_iff]
      omega
theorem ilt_true {a b : Int} (h : ilt a b = true) : a < b := by rw [ilt_iff] at h; exact of_decide_eq_true h
theorem ilt_false {a b : Int} (h : ilt a b = false) : b ≤ a := by rw [ilt_iff] at h; have := of_decide_eq_false h; omega
theorem ieq_iff (a b : Int) : ieq a b = decide (a = b) := by
  cases a with
  | ofNat a => cases b with
    | ofNat b =>
      show Nat.beq a b = _
      rw [Bool.eq_iff_iff, Nat.beq_eq, decide_eq_true_iff]
      exact ⟨fun h => by rw [h], fun h => by injection h⟩
    | negSucc b => symm; rw [show ieq (.ofNat a) (.negSucc b) = false from rfl, decide_eq_false_iff_not]; intro h; cases h
  | negSucc a => cases b with
    | ofNat b => symm; rw [show ieq (.negSucc a) (.ofNat b) = false from rfl, decide_eq_false_iff_not]; intro h; cases h
    | negSucc b =>
      show Nat.beq a b = _
      rw [Bool.eq_iff_iff, Nat.beq_eq, decide_eq_true_iff]
      exact ⟨fun h => by rw [h], fun h => by injection h⟩
theorem ieq_true {a b : Int} (h : ieq a b = true) : a = b := by rw [ieq_iff] at h; exact of_decide_eq_true h
theorem ieq_false {a b : Int} (h : ieq a b = false) : a ≠ b := by rw [ieq_iff] at h; exact of_decide_eq_false h
theorem ieq_beq (a b : Int) : ieq a b = (a == b) := by rw [ieq_iff]; rfl
theorem wrap_in {k : IntKind} {n : Int} (h0 : k.min ≤ n) (h1 : n ≤ k.max) : k.wrap n = n := by
  cases k <;> simp [IntKind.min, IntKind.max, IntKind.wrap, IntKind.signed, IntKind.bits] at * <;> omega
theorem wrapF_eq (k : IntKind) (n : Int) : wrapF k n = k.wrap n := by
  unfold wrapF
  split
  · split
    · rename_i a h
      have := ble_iff.1 h
      exact (wrap_in (by simp [IntKind.min, IntKind.signed, IntKind.bits] <;> omega) (by simp [IntKind.max, IntKind.signed, IntKind.bits]; omega)).symm
    · rfl
  · split
    · rename_i a h
      have := ble_iff.1 h
      exact (wrap_in (by simp [IntKind.min, IntKind.signed, IntKind.bits] <;> omega) (by simp [IntKind.max, IntKind.signed, IntKind.bits]; omega)).symm
    · rfl
  · split
    · rename_i a h
      have := ble_iff.1 h
      exact (wrap_in (by simp [IntKind.min, IntKind.signed]) (by simp [IntKind.max, IntKind.signed, IntKind.bits]; omega)).symm
    · rfl
  · rfl
theorem kIdx_eq {k k' : IntKind} (h : Nat.beq (kIdx k) (kIdx k') = true) : k = k' := by
  cases k <;> cases k' <;> first | rfl | (exact absurd h (by decide))

/-! ### strings -/
theorem num_nil (acc : Nat) : num [] acc = acc := rfl
theorem num_cons (x : UInt8) (l : List UInt8) (acc : Nat) : num (x :: l) acc = num l (acc * 256 + x.toNat) := rfl
theorem num_acc (l : List UInt8) : ∀ acc, num l acc = acc * 256 ^ l.length + num l 0 := by
  induction l with
  | nil => intro acc; simp [num_nil]
  | cons x l ih =>
    intro acc
    have e1 := ih (acc * 256 + x.toNat)
    have e2 := ih (0 * 256 + x.toNat)
    rw [num_cons, num_cons, e1, e2, List.length_cons, Nat.pow_succ]
    generalize 256 ^ l.length = q
    rw [Nat.add_mul, Nat.add_mul, Nat.zero_mul, Nat.zero_add, Nat.mul_assoc, Nat.mul_comm 256 q, Nat.add_assoc]
theorem num_cons0 (x : UInt8) (l : List UInt8) : num (x :: l) 0 = x.toNat * 256 ^ l.length + num l 0 := by
  rw [num_cons, num_acc, Nat.zero_mul, Nat.zero_add]
theorem num_app (l m : List UInt8) : num (l ++ m) 0 = num l 0 * 256 ^ m.length + num m 0 := by
  induction l with
  | nil => simp [num_nil]
  | cons x l ih =>
    rw [List.cons_append, num_cons0, num_cons0, ih, List.length_append, Nat.pow_add, Nat.add_mul, Nat.mul_assoc, Nat.add_assoc]
theorem num_lt (l : List UInt8) : num l 0 < 256 ^ l.length := by
  induction l with
  | nil => simp [num_nil]
  | cons x l ih =>
    rw [num_cons0, List.length_cons, Nat.pow_succ]
    have hx : x.toNat < 256 := x.toNat_lt
    calc x.toNat * 256 ^ l.length + num l 0 < x.toNat * 256 ^ l.length + 256 ^ l.length := by omega
      _ = (x.toNat + 1) * 256 ^ l.length := by rw [Nat.add_mul, Nat.one_mul]
      _ ≤ 256 * 256 ^ l.length := Nat.mul_le_mul_right _ (by omega)
      _ = 256 ^ l.length * 256 := Nat.mul_comm _ _
theorem num_inj : ∀ (l m : List UInt8), l.length = m.length → num l 0 = num m 0 → l = m := by
  intro l
  induction l with
  | nil => intro m h _; cases m with | nil => rfl | cons y m => simp at h
  | cons x l ih =>
    intro m h e
    cases m with
    | nil => simp at h
    | cons y m =>
      have hl : l.length = m.length := by simpa using h
      rw [num_cons0, num_cons0, hl] at e
      have h1 := num_lt l
      have h2 := num_lt m
      rw [hl] at h1
      have hp : 0 < 256 ^ m.length := Nat.pow_pos (by decide)
      have d1 : (x.toNat * 256 ^ m.length + num l 0) / 256 ^ m.length = x.toNat := by
        rw [Nat.add_comm, Nat.add_mul_div_right _ _ hp, Nat.div_eq_of_lt h1, Nat.zero_add]
      have d2 : (y.toNat * 256 ^ m.length + num m 0) / 256 ^ m.length = y.toNat := by
        rw [Nat.add_comm, Nat.add_mul_div_right _ _ hp, Nat.div_eq_of_lt h2, Nat.zero_add]
      have hxy : x.toNat = y.toNat := by rw [← d1, ← d2, e]
      have hr : num l 0 = num m 0 := by rw [hxy] at e; omega
      rw [UInt8.toNat_inj.1 hxy, ih m hl hr]
theorem num_take_drop (l : List UInt8) (k : Nat) : num l 0 = num (l.take k) 0 * 256 ^ (l.length - k) + num (l.drop k) 0 := by
  conv => lhs; rw [← List.take_append_drop k l]
  rw [num_app, List.length_drop]
theorem num_take (l : List UInt8) (k : Nat) (_h : k ≤ l.length) : num (l.take k) 0 = num l 0 / 256 ^ (l.length - k) := by
  rw [num_take_drop l k]
  have h1 := num_lt (l.drop k)
  rw [List.length_drop] at h1
  rw [Nat.add_comm, Nat.add_mul_div_right _ _ (Nat.pow_pos (by decide)), Nat.div_eq_of_lt h1, Nat.zero_add]
theorem num_drop (l : List UInt8) (k : Nat) (_h : k ≤ l.length) : num (l.drop k) 0 = num l 0 % 256 ^ (l.length - k) := by
  rw [num_take_drop l k]
  have h1 := num_lt (l.drop k)
  rw [List.length_drop] at h1
  rw [Nat.add_comm, Nat.add_mul_mod_self_right, Nat.mod_eq_of_lt h1]
theorem num_slice (l : List UInt8) (a c : Nat) (h : a ≤ c) (hc : c ≤ l.length) : num ((l.take c).drop a) 0 = num l 0 / 256 ^ (l.length - c) % 256 ^ (c - a) := by
  rw [num_drop _ _ (by rw [List.length_take]; omega), num_take l c hc, List.length_take, Nat.min_eq_left hc]
theorem num_get (l : List UInt8) (i : Nat) (h : i < l.length) : (l[i]).toNat = num l 0 / 256 ^ (l.length - 1 - i) % 256 := by
  have h1 := num_slice l i (i + 1) (by omega) (by omega)
  have h2 : (l.take (i + 1)).drop i = [l[i]] := by
    rw [List.take_succ_eq_append_getElem h, List.drop_append_of_le_length (by rw [List.length_take]; omega)]
    simp
  rw [h2, num_cons0, num_nil, List.length_nil, Nat.pow_zero, Nat.mul_one, Nat.add_zero, show i + 1 - i = 1 by omega, Nat.pow_one, show l.length - (i + 1) = l.length - 1 - i by omega] at h1
  exact h1
theorem strEq_iff (l m : List UInt8) : strEq l.length (num l 0) m.length (num m 0) = (l == m) := by
  unfold strEq
  cases h : Nat.beq l.length m.length
  · have := Nat.ne_of_beq_eq_false h
    symm; rw [beq_eq_false_iff_ne]; intro e; exact this (by rw [e])
  · have hl := Nat.eq_of_beq_eq_true h
    cases h2 : Nat.beq (num l 0) (num m 0)
    · have := Nat.ne_of_beq_eq_false h2
      symm; rw [beq_eq_false_iff_ne]; intro e; exact this (by rw [e])
    · symm; rw [beq_iff_eq]; exact num_inj l m hl (Nat.eq_of_beq_eq_true h2)
end Go.Proofs.YtlnfollgpbcafaaGreatDoor.Xq
