/- What is carried out in place. -/
import Derived.Test.YthfkajaeikhloaaGreatDoorLawEachC0
set_option maxRecDepth 1000000
namespace Go.Proofs.YthfkajaeikhloaaGreatDoor.lawEach
open Go
theorem inp : Tryz.prog.inPlace 5 = Rows.lawEachRow.inPlace := by
  unfold Program.inPlace
  rw [clo]
  kernel_rfl
end Go.Proofs.YthfkajaeikhloaaGreatDoor.lawEach
