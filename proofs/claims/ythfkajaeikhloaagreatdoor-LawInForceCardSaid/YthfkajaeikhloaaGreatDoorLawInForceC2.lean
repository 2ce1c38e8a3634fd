/- The variables that are named. -/
import Derived.Test.YthfkajaeikhloaaGreatDoorLawInForceC0
set_option maxRecDepth 1000000
namespace Go.Proofs.YthfkajaeikhloaaGreatDoor.lawInForce
open Go
theorem vars : Tryz.prog.varsNamed 3 = Rows.lawInForceRow.named := by
  unfold Program.varsNamed
  rw [clo]
  kernel_rfl
end Go.Proofs.YthfkajaeikhloaaGreatDoor.lawInForce
