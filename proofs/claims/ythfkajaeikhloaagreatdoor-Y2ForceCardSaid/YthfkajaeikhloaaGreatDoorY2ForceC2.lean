/- The variables that are named. -/
import Derived.Test.YthfkajaeikhloaaGreatDoorY2ForceC0
set_option maxRecDepth 1000000
namespace Go.Proofs.YthfkajaeikhloaaGreatDoor.y2Force
open Go
theorem vars : Tryz.prog.varsNamed 4 = Rows.y2ForceRow.named := by
  unfold Program.varsNamed
  rw [clo]
  kernel_rfl
end Go.Proofs.YthfkajaeikhloaaGreatDoor.y2Force
