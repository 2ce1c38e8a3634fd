/- The row's closed facts. -/
import Derived.Test.YthfkajaeikhloaaGreatDoorLawInForceC0
set_option maxRecDepth 1000000
namespace Go.Proofs.YthfkajaeikhloaaGreatDoor.lawInForce
open Go
theorem facts : joinedFacts Tryz.prog 3 Tryz.f3 Rows.lawInForceSpec Rows.lawInForceRow = true := by
  unfold joinedFacts Program.inPlace Program.unfollowed Program.recurses Program.varsNamed
  rw [clo]
  kernel_rfl
end Go.Proofs.YthfkajaeikhloaaGreatDoor.lawInForce
