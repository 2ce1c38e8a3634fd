/- text.Key of any string that is not too long: it answers some bool and changes nothing that was there. -/
import Derived.Test.YthfkajaeikhloaaGreatDoorOf
import Derived.Test.YthfkajaeikhloaaGreatDoorOd
import Derived.Below
namespace Go.Proofs.YthfkajaeikhloaaGreatDoor
open Go Go.RowKit Go.Lib Go.Shelf
set_option maxRecDepth 100000
set_option maxHeartbeats 1600000
theorem belowN (w : World) (n : Nat) : Below w.heap.size w (w.drewN n) := ⟨rfl, rfl, rfl, Nat.le_refl _, fun _ _ => rfl⟩
theorem below2 {w w1 w2 : World} (h : Below w.heap.size w w1) (k : Below w1.heap.size w1 w2) : Below w.heap.size w w2 := h.trans (k.mono h.size)
theorem cut226 (s : ByteArray) (w : World) (h : s.size ≤ 1000000) : Calls Tryz.prog 226 #[.string s, .string ⟨#[46]⟩] w fun e w' => (∃ a b c, e = .returned (.tuple #[.string a, .string b, .bool c])) ∧ ∃ n, w' = w.drewN n := by
  have hix := index250 s 46
  have mixed : Tryz.prog.follows .mixedOrders = true := by kernel_rfl
  rcases Lib.indexB_cases s ⟨#[46]⟩ with hi | ⟨i, hi, hroom⟩
  all_goals
    have e1 : Lib.indexB s ⟨#[46]⟩ = Lib.indexByte s.data.toList 46 := (Lib.one s ⟨#[46]⟩ rfl)
    rw [e1] at hi
    rw [hi] at hix
  · go_enter Tryz.func226, Tryz.ntmps226
    go_wp2_with (go_at_call 250; refine (hix _).mono ?_; rintro e w' ⟨rfl, rfl⟩)
    go_ret3
    exact ⟨⟨_, _, _, rfl⟩, 0, rfl⟩
  · have h46 : (⟨#[46]⟩ : ByteArray).size = 1 := rfl
    have c1 : (0 : Int) ≤ ↑i := by omega
    have c2 : (↑i : Int) ≤ ↑s.size := by omega
    have c3 : (0 : Int) ≤ ↑i + 1 := by omega
    have c4 : (↑i + 1 : Int) ≤ ↑s.size := by omega
    go_enter Tryz.func226, Tryz.ntmps226
    go_wp2_with (go_at_call 250; refine (hix _).mono ?_; rintro e w' ⟨rfl, rfl⟩)
    go_region_o
    go_wp2
    go_ret3
    exact ⟨⟨_, _, _, rfl⟩, 1, rfl⟩
theorem name142 (s : ByteArray) (w : World) (h : s.size ≤ 1000000) : Calls Tryz.prog 142 #[.string s] w fun e w' => (∃ b, e = .returned (.bool b)) ∧ Below w.heap.size w w' := by
  go_enter Tryz.func142, Tryz.ntmps142
  go_wp2_with (go_at_call 200; refine (split200 s 46 _ h).mono ?_; rintro e w' ⟨l, he, hw, hl, hx⟩; subst he; rw [hw])
  · go_ret
    exact ⟨⟨_, rfl⟩, Below.refl _ w⟩
  · go_ret
    exact ⟨⟨_, rfl⟩, Below.refl _ w⟩
  · have hb : Below w.heap.size w (w.alloc (.cells (l.map Value.string).toArray 9)) := (Below.refl _ w).alloc (Nat.le_refl _) _
    go_loop [15] (fun i => ∃ k : Nat, i = .int .i64 k ∧ k ≤ l.length) (fun i => l.length - (RowKit.intOf i).toNat)
    case atStart => exact ⟨0, rfl, Nat.zero_le _⟩
    case round =>
      obtain ⟨k, rfl, hk⟩ := hrel
      by_cases hlt : k < l.length
      · have hc : (w.alloc (.cells (l.map Value.string).toArray 9)).cell? ⟨w.heap.size, 0 + k * 1, none⟩ = some (.string l[k]) := by
          have hnew : (w.alloc (.cells (l.map Value.string).toArray 9)).heap[w.heap.size]? = some (.cells (l.map Value.string).toArray 9 (0, 0)) := by
            show (w.heap.push _)[w.heap.size]? = _
            simp
          rw [cell_of_row _ _ _ _ _ _ hnew]
          simp [hlt]
        have hz : (k : Int) < (l.length : Int) := by omega
        have hx' : l[k].size ≤ 1000000 := Nat.le_trans (hx _ (List.getElem_mem hlt)) h
        go_wp2_with (go_at_call 201; refine (word _ _ hx').mono ?_; rintro e w' ⟨⟨b, he⟩, hw⟩; subst he; rw [hw])
        all_goals first
          | (refine ⟨⟨k + 1, by first | rfl | (push_cast; rfl), by omega⟩, ?_⟩; simp [RowKit.intOf]; omega)
          | (go_ret; exact ⟨.inl rfl, hb⟩)
          | (go_ret; exact ⟨⟨_, rfl⟩, hb⟩)
      · have hz : ¬ (k : Int) < (l.length : Int) := by omega
        go_wp2
        go_ret
        exact ⟨.inr rfl, hb⟩
theorem cut202 (s : ByteArray) (w : World) (h : s.size ≤ 1000000) : Calls Tryz.prog 202 #[.string s, .string ⟨#[46]⟩] w fun e w' => (∃ a b c, e = .returned (.tuple #[.string a, .string b, .bool c])) ∧ ∃ n, w' = w.drewN n := by
  have mixed : Tryz.prog.follows .mixedOrders = true := by kernel_rfl
  go_enter Tryz.func202, Tryz.ntmps202
  go_wp2_with (go_at_call 226; refine (cut226 s _ h).mono ?_; rintro e w' ⟨⟨a, b, c, he⟩, n, hw⟩; subst he; rw [hw])
  go_ret3
  exact ⟨⟨_, _, _, rfl⟩, n, rfl⟩
theorem rest143 (s : ByteArray) (w : World) (h : s.size ≤ 1000000) : Calls Tryz.prog 143 #[.string s] w fun e w' => (∃ r, e = .returned (.string r)) ∧ Below w.heap.size w w' := by
  have mixed : Tryz.prog.follows .mixedOrders = true := by kernel_rfl
  go_enter Tryz.func143, Tryz.ntmps143
  go_wp2_with (first | (go_at_call 142; refine (name142 s _ h).mono ?_; rintro e w1 ⟨⟨b, he⟩, hb⟩; subst he) | (go_at_call 202; refine (cut202 s _ h).mono ?_; rintro e w' ⟨⟨a, b, c, he⟩, n, hw⟩; subst he; rw [hw]))
  all_goals
    go_ret
    first
      | exact ⟨⟨_, rfl⟩, hb⟩
      | exact ⟨⟨_, rfl⟩, below2 hb (belowN _ _)⟩
theorem space144 (s : ByteArray) (w : World) (h : s.size ≤ 1000000) : Calls Tryz.prog 144 #[.string s] w fun e w' => (∃ r, e = .returned (.string r)) ∧ Below w.heap.size w w' := by
  have mixed : Tryz.prog.follows .mixedOrders = true := by kernel_rfl
  go_enter Tryz.func144, Tryz.ntmps144
  go_wp2_with (first | (go_at_call 142; refine (name142 s _ h).mono ?_; rintro e w1 ⟨⟨b, he⟩, hb⟩; subst he) | (go_at_call 202; refine (cut202 s _ h).mono ?_; rintro e w' ⟨⟨a, b, c, he⟩, n, hw⟩; subst he; rw [hw]))
  all_goals
    go_ret
    first
      | exact ⟨⟨_, rfl⟩, hb⟩
      | exact ⟨⟨_, rfl⟩, below2 hb (belowN _ _)⟩
theorem keyC (s : ByteArray) (w : World) (h : s.size ≤ 1000000) : Calls Tryz.prog 87 #[.string s] w fun e w' => (∃ b, e = .returned (.bool b)) ∧ Below w.heap.size w w' := by
  have mixed : Tryz.prog.follows .mixedOrders = true := by kernel_rfl
  go_enter Tryz.func87, Tryz.ntmps87
  go_wp2_with (first | (go_at_call 142; refine (name142 s _ h).mono ?_; rintro e w1 ⟨⟨b, he⟩, hb⟩; subst he) | (go_at_call 143; refine (rest143 s _ h).mono ?_; rintro e w2 ⟨⟨r, he⟩, hb2⟩; subst he) | (go_at_call 144; refine (space144 s _ h).mono ?_; rintro e w3 ⟨⟨q, he⟩, hb3⟩; subst he))
  all_goals
    go_ret
    first
      | exact ⟨⟨_, rfl⟩, hb⟩
      | exact ⟨⟨_, rfl⟩, below2 hb hb2⟩
      | exact ⟨⟨_, rfl⟩, below2 (below2 hb hb2) hb3⟩
      | exact ⟨.inl rfl, hb⟩
      | exact ⟨.inl rfl, below2 hb hb2⟩
      | exact ⟨.inr rfl, below2 hb hb2⟩
      | exact ⟨.inl rfl, below2 (below2 hb hb2) hb3⟩
      | exact ⟨.inr rfl, below2 (below2 hb hb2) hb3⟩
end Go.Proofs.YthfkajaeikhloaaGreatDoor
