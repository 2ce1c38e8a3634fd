/- That the call starts no goroutine. -/
import Derived.Test.YthfkajaeikhloaaGreatDoorLawEachC
import Derived.SevenTiedAt
set_option maxRecDepth 1000000
namespace Go.Proofs.YthfkajaeikhloaaGreatDoor.lawEach
open Go
theorem goes : Tryz.prog.goes 5 = false := by
  unfold Program.goes
  rw [unf, clo]
  kernel_rfl
theorem goesBy_of {P : Program} {c : OpenClaim} {f : FuncId} (hs : c.start = .entering) (hf : P.funcNamed c.func = some f) (hg : P.goes f = false) : false = c.goesBy P := by
  unfold OpenClaim.goesBy Program.goesAt Program.goesFrom
  rw [hs, hf]
  simp [hg]
theorem gby : false = OpenClaim.goesBy Rows.lawEachRow Tryz.prog := goesBy_of rfl (by kernel_rfl) goes
end Go.Proofs.YthfkajaeikhloaaGreatDoor.lawEach
