/- The run of the statement's function: the executor of this claim, whose soundness is proved in the texts before this one, comes out true. -/
import Derived.Test.YthfkajaeikhloaaGreatDoorLawEachR0
set_option maxRecDepth 1000000
namespace Go.Proofs.YthfkajaeikhloaaGreatDoor.lawEach
open Go Go.Proofs.YthfkajaeikhloaaGreatDoor.Xq Go.RowKit
theorem run_i2 (t : Nat → Nat) : callF Tryz.prog smSg 60 Bool ansB 5 [.int .i64 (2)] (initS (gls t) 1000 (syC (-9223372036854775808) 9223372036854775807 (-9223372036854775808) 9223372036854775807 (.excl []))) isTrue = true := by kernel_rfl
end Go.Proofs.YthfkajaeikhloaaGreatDoor.lawEach
