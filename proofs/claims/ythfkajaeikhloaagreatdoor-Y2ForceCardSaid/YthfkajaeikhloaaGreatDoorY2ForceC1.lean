/- What is carried out in place. -/
import Derived.Test.YthfkajaeikhloaaGreatDoorY2ForceC0
set_option maxRecDepth 1000000
namespace Go.Proofs.YthfkajaeikhloaaGreatDoor.y2Force
open Go
theorem inp : Tryz.prog.inPlace 4 = Rows.y2ForceRow.inPlace := by
  unfold Program.inPlace
  rw [clo]
  kernel_rfl
end Go.Proofs.YthfkajaeikhloaaGreatDoor.y2Force
