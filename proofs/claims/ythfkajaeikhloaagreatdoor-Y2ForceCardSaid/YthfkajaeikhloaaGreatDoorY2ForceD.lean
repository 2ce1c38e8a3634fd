/- The row holds. -/
import Derived.Test.YthfkajaeikhloaaGreatDoorY2ForceC
import Derived.Test.YthfkajaeikhloaaGreatDoorY2ForceB
import Derived.WalkKit
import Derived.ProofKit
import Derived.OpenShut
import Derived.LaidMore
import Derived.Lay
import Derived.LaidOnce
import Derived.SevenTiedAt
import Derived.ChangeSame
import Derived.Below
import Derived.Handed
import Derived.ChangeMaps5
namespace Go.Proofs.YthfkajaeikhloaaGreatDoor.y2Force
open Go Go.Proofs.YthfkajaeikhloaaGreatDoor.Xq Go.ChangeShapes Go.WideShapes Go.ChangeAt Go.RowKit
set_option linter.unusedVariables false
theorem over : Rows.y2ForceRow.holds Tryz.pinned (OpenSpec.ofChange Rows.y2ForceSpec) :=
  OpenClaim.holds_of_wide 4 Tryz.f4 rfl rfl rfl rfl rfl rfl rfl ⟨rfl, rfl, rfl, rfl, rfl⟩ rfl rfl rfl rfl rfl (by kernel_rfl) Tryz.func4 facts
    (of_decide_eq_true (by kernel_rfl)) (by unfold Func.isWrapper; first | (rw [if_pos (by decide +kernel)]; kernel_rfl) | (rw [if_neg (by decide +kernel)]; exact ⟨rfl, rfl⟩))
    (fun os started H enc _ => lifted os started H enc)
end Go.Proofs.YthfkajaeikhloaaGreatDoor.y2Force
