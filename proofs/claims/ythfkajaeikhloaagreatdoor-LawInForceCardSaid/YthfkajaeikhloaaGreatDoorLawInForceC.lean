/- The row's closed facts. -/
import Derived.Test.YthfkajaeikhloaaGreatDoorLawInForceC1
import Derived.Test.YthfkajaeikhloaaGreatDoorLawInForceC2
set_option maxRecDepth 1000000
namespace Go.Proofs.YthfkajaeikhloaaGreatDoor.lawInForce
open Go
theorem unf : Tryz.prog.unfollowed 3 = true := by
  unfold Program.unfollowed
  rw [clo]
  kernel_rfl
theorem rcs : Tryz.prog.recurses 3 = true := by
  unfold Program.recurses
  rw [unf]
  rfl
theorem facts : joinedFacts Tryz.prog 3 Tryz.f3 Rows.lawInForceSpec Rows.lawInForceRow = true := by
  unfold joinedFacts
  rw [inp, vars, unf, rcs]
  kernel_rfl
end Go.Proofs.YthfkajaeikhloaaGreatDoor.lawInForce
