/- The run of the statement's function: the executor of this claim, whose soundness is proved in the texts before this one, comes out true. -/
import Derived.Test.YthfkajaeikhloaaGreatDoorY2ForceR0
set_option maxRecDepth 1000000
namespace Go.Proofs.YthfkajaeikhloaaGreatDoor.y2Force
open Go Go.Proofs.YthfkajaeikhloaaGreatDoor.Xq Go.RowKit
theorem run_s0 (t : Nat → Nat) : callF Tryz.prog smSb 60 Bool ansB 4 [.str 17 38173369057568756034548228006048761867365, .sym 0, .sym 1] (initS (gls t) 1000 (syC (-9223372036854775808) 9223372036854775807 (-9223372036854775808) 9223372036854775807 (.known 17 38173369057568756034548228006048761867365))) isTrue = true := by kernel_rfl
end Go.Proofs.YthfkajaeikhloaaGreatDoor.y2Force
