/- The row's closed facts. -/
import Derived.Test.YthfkajaeikhloaaGreatDoorY2ForceC1
import Derived.Test.YthfkajaeikhloaaGreatDoorY2ForceC2
set_option maxRecDepth 1000000
namespace Go.Proofs.YthfkajaeikhloaaGreatDoor.y2Force
open Go
theorem unf : Tryz.prog.unfollowed 4 = true := by
  unfold Program.unfollowed
  rw [clo]
  kernel_rfl
theorem rcs : Tryz.prog.recurses 4 = true := by
  unfold Program.recurses
  rw [unf]
  rfl
theorem facts : joinedFacts Tryz.prog 4 Tryz.f4 Rows.y2ForceSpec Rows.y2ForceRow = true := by
  unfold joinedFacts
  rw [inp, vars, unf, rcs]
  kernel_rfl
end Go.Proofs.YthfkajaeikhloaaGreatDoor.y2Force
