/- The variables that are named. -/
import Derived.Test.YthfkajaeikhloaaGreatDoorLawEachC0
set_option maxRecDepth 1000000
namespace Go.Proofs.YthfkajaeikhloaaGreatDoor.lawEach
open Go
theorem vars : Tryz.prog.varsNamed 5 = Rows.lawEachRow.named := by
  unfold Program.varsNamed
  rw [clo]
  kernel_rfl
end Go.Proofs.YthfkajaeikhloaaGreatDoor.lawEach
