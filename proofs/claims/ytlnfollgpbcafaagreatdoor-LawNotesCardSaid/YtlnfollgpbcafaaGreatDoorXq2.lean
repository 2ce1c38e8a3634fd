import Derived.Test.YtlnfollgpbcafaaGreatDoorXqX
set_option autoImplicit false
set_option linter.unusedVariables false
/-! The atoms at a case: two numbers between bounds, a string that is known or is none of some. -/
namespace Go.Proofs.YtlnfollgpbcafaaGreatDoor.Xq
open Go
noncomputable def syC (lo hi lo' hi' : Int) (f : SF) : Sy := ⟨3, ((Tr.leaf.set (some (lo, hi)) (pathOf 0)).set (some (lo', hi')) (pathOf 1)).set (some (0, 9223372036854775807)) (pathOf 2), [], Tr.leaf.set (some f) (pathOf 0)⟩
def SfOk (s : ByteArray) : SF → Prop
  | .known l n => s.data.toList.length = l ∧ num s.data.toList 0 = n
  | .excl ls => ∀ x ∈ ls, ¬ (s.data.toList.length = x.1 ∧ num s.data.toList 0 = x.2)
theorem syC_ok {E : Env} {i k lo hi lo' hi' : Int} {n : Nat} {f : SF} (h0 : lo ≤ i ∧ i ≤ hi) (h1 : lo' ≤ k ∧ k ≤ hi') (hn : n ≤ 9223372036854775807) (hf : SfOk (E.ς 0) f) (he : E.σ = σ2 i k n) : SyOk E (syC lo hi lo' hi' f) := by
  refine ⟨fun j hj => ?_, fun j a b h => ?_, fun m hm => (by cases hm), fun j l m h => ?_, fun j ls h => ?_⟩
  · have hj : 3 ≤ j := hj
    rw [he]; unfold σ2
    rw [if_neg (by omega), if_neg (by omega), if_neg (by omega)]
  · have h : Tr.get (pathOf j) (Tr.set (some ((0 : Int), (9223372036854775807 : Int))) (pathOf 2) (Tr.set (some (lo', hi')) (pathOf 1) (Tr.set (some (lo, hi)) (pathOf 0) .leaf))) = some (a, b) := h
    rw [Tr.get_set_of, Tr.get_set_of, Tr.get_set_of, get_leaf] at h
    rw [he]; unfold σ2
    by_cases q2 : 2 = j
    · subst q2
      simp at h
      obtain ⟨rfl, rfl⟩ := h
      exact ⟨n, by simp, by omega, by omega⟩
    · rw [if_neg q2] at h
      by_cases q1 : 1 = j
      · subst q1
        simp at h
        obtain ⟨rfl, rfl⟩ := h
        exact ⟨k, by simp, h1.1, h1.2⟩
      · rw [if_neg q1] at h
        by_cases q0 : 0 = j
        · subst q0
          simp at h
          obtain ⟨rfl, rfl⟩ := h
          exact ⟨i, by simp, h0.1, h0.2⟩
        · rw [if_neg q0] at h; cases h
  · have h : Tr.get (pathOf j) (Tr.set (some f) (pathOf 0) .leaf) = some (.known l m) := h
    rw [Tr.get_set_of, get_leaf] at h
    split at h
    · rename_i q; subst q; cases h; exact hf
    · cases h
  · have h : Tr.get (pathOf j) (Tr.set (some f) (pathOf 0) .leaf) = some (.excl ls) := h
    rw [Tr.get_set_of, get_leaf] at h
    split at h
    · rename_i q; subst q; cases h; exact hf
    · cases h
/-- a remainder that is known -/
noncomputable def syR (m c : Int) : Sy := ⟨4, (((Tr.leaf.set (some (-9223372036854775808, 9223372036854775807)) (pathOf 0)).set (some (-9223372036854775808, 9223372036854775807)) (pathOf 1)).set (some (0, 9223372036854775807)) (pathOf 2)).set (some (c, c)) (pathOf 3), [⟨.rem, .at 0, .lit m, 3⟩], Tr.leaf.set (some (.excl [])) (pathOf 0)⟩
def σR (i k : Int) (n : Nat) (r : Int) : Nat → Option Int := fun j => if j = 3 then some r else σ2 i k n j
theorem syR_ok {E : Env} {i k m c : Int} {n : Nat} (h0 : -9223372036854775808 ≤ i ∧ i ≤ 9223372036854775807) (h1 : -9223372036854775808 ≤ k ∧ k ≤ 9223372036854775807) (hn : n ≤ 9223372036854775807) (hm : m ≠ 0) (hc : i.tmod m = c) (he : E.σ = σR i k n c) : SyOk E (syR m c) := by
  refine ⟨fun j hj => ?_, fun j a b h => ?_, fun q hq => ?_, fun j l q h => ?_, fun j ls h => ?_⟩
  · have hj : 4 ≤ j := hj
    rw [he]; unfold σR σ2
    rw [if_neg (by omega), if_neg (by omega), if_neg (by omega), if_neg (by omega)]
  · have h : Tr.get (pathOf j) (Tr.set (some (c, c)) (pathOf 3) (Tr.set (some ((0 : Int), (9223372036854775807 : Int))) (pathOf 2) (Tr.set (some (-9223372036854775808, 9223372036854775807)) (pathOf 1) (Tr.set (some (-9223372036854775808, 9223372036854775807)) (pathOf 0) .leaf)))) = some (a, b) := h
    rw [Tr.get_set_of, Tr.get_set_of, Tr.get_set_of, Tr.get_set_of, get_leaf] at h
    rw [he]; unfold σR σ2
    by_cases q3 : 3 = j
    · subst q3
      simp at h
      obtain ⟨rfl, rfl⟩ := h
      exact ⟨c, by simp, by omega, by omega⟩
    · rw [if_neg q3] at h
      by_cases q2 : 2 = j
      · subst q2
        simp at h
        obtain ⟨rfl, rfl⟩ := h
        exact ⟨n, by simp, by omega, by omega⟩
      · rw [if_neg q2] at h
        by_cases q1 : 1 = j
        · subst q1
          simp at h
          obtain ⟨rfl, rfl⟩ := h
          exact ⟨k, by simp, h1.1, h1.2⟩
        · rw [if_neg q1] at h
          by_cases q0 : 0 = j
          · subst q0
            simp at h
            obtain ⟨rfl, rfl⟩ := h
            exact ⟨i, by simp, h0.1, h0.2⟩
          · rw [if_neg q0] at h; cases h
  · rcases List.mem_singleton.1 hq with rfl
    refine ⟨i, m, ?_, rfl, ?_, fun _ => hm⟩
    · show E.σ 0 = some i
      rw [he]; rfl
    · show E.σ 3 = some (i.tmod m)
      rw [he, hc]; rfl
  · have h : Tr.get (pathOf j) (Tr.set (some (SF.excl [])) (pathOf 0) .leaf) = some (.known l q) := h
    rw [Tr.get_set_of, get_leaf] at h
    split at h <;> cases h
  · have h : Tr.get (pathOf j) (Tr.set (some (SF.excl [])) (pathOf 0) .leaf) = some (.excl ls) := h
    rw [Tr.get_set_of, get_leaf] at h
    split at h
    · cases h; intro x hx; cases hx
    · cases h
theorem range64 {x : Int} (h : (Lit.int .i64 x).wf = true) : -9223372036854775808 ≤ x ∧ x ≤ 9223372036854775807 := by
  simpa [Lit.wf, IntKind.min, IntKind.max, IntKind.signed, IntKind.bits] using h
end Go.Proofs.YtlnfollgpbcafaaGreatDoor.Xq
