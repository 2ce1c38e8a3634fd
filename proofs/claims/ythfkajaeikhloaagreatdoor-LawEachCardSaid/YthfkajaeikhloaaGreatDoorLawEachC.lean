/- The row's closed facts. -/
import Derived.Test.YthfkajaeikhloaaGreatDoorLawEachC1
import Derived.Test.YthfkajaeikhloaaGreatDoorLawEachC2
set_option maxRecDepth 1000000
namespace Go.Proofs.YthfkajaeikhloaaGreatDoor.lawEach
open Go
theorem unf : Tryz.prog.unfollowed 5 = true := by
  unfold Program.unfollowed
  rw [clo]
  kernel_rfl
theorem rcs : Tryz.prog.recurses 5 = true := by
  unfold Program.recurses
  rw [unf]
  rfl
theorem facts : joinedFacts Tryz.prog 5 Tryz.f5 Rows.lawEachSpec Rows.lawEachRow = true := by
  unfold joinedFacts
  rw [inp, vars, unf, rcs]
  kernel_rfl
end Go.Proofs.YthfkajaeikhloaaGreatDoor.lawEach
