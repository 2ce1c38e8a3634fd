/- What is carried out in place. -/
import Derived.Test.YthfkajaeikhloaaGreatDoorLawInForceC0
set_option maxRecDepth 1000000
namespace Go.Proofs.YthfkajaeikhloaaGreatDoor.lawInForce
open Go
theorem inp : Tryz.prog.inPlace 3 = Rows.lawInForceRow.inPlace := by
  unfold Program.inPlace
  rw [clo]
  kernel_rfl
end Go.Proofs.YthfkajaeikhloaaGreatDoor.lawInForce
