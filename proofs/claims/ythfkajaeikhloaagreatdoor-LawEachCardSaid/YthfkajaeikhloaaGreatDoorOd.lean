/- text.Word of any string. -/
import Derived.Test.YthfkajaeikhloaaGreatDoorRows
import Derived.WalkKit
namespace Go.Proofs.YthfkajaeikhloaaGreatDoor
open Go Go.RowKit
set_option maxRecDepth 100000
set_option maxHeartbeats 1600000
theorem word (a : ByteArray) (w : World) (h : a.size ≤ 1000000) : Calls Tryz.prog 201 #[.string a] w fun e w' => (∃ b, e = .returned (.bool b)) ∧ w' = w := by
  go_enter Tryz.func201, Tryz.ntmps201
  go_wp2
  go_loop [7] (fun i => ∃ k : Nat, k ≤ a.size ∧ i = .int .i64 k) (fun i => a.size - (intOf i).toNat)
  case atStart => exact ⟨0, Nat.zero_le _, rfl⟩
  case round =>
    obtain ⟨k, hk, rfl⟩ := hrel
    go_wp2
    all_goals first
      | (refine ⟨⟨k + 1, by omega, by first | (simp; done) | (simp; omega)⟩, ?_⟩; simp [intOf]; omega)
      | (go_ret; exact ⟨.inl rfl, rfl⟩)
      | (go_ret; exact ⟨.inr rfl, rfl⟩)
      | (go_ret; refine ⟨?_, rfl⟩; cases a.toList.isEmpty <;> simp)
end Go.Proofs.YthfkajaeikhloaaGreatDoor
