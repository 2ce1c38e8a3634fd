/- The row's closed facts. -/
import Derived.Test.YthfkajaeikhloaaGreatDoorY2ForceC0
set_option maxRecDepth 1000000
namespace Go.Proofs.YthfkajaeikhloaaGreatDoor.y2Force
open Go
theorem facts : joinedFacts Tryz.prog 4 Tryz.f4 Rows.y2ForceSpec Rows.y2ForceRow = true := by
  unfold joinedFacts Program.inPlace Program.unfollowed Program.recurses Program.varsNamed
  rw [clo]
  kernel_rfl
end Go.Proofs.YthfkajaeikhloaaGreatDoor.y2Force
