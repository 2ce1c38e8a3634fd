/- The run of the statement's function: the executor of this claim, whose soundness is proved in the texts before this one, comes out true. -/
import Derived.Test.YthfkajaeikhloaaGreatDoorLawInForceR0
set_option maxRecDepth 1000000
namespace Go.Proofs.YthfkajaeikhloaaGreatDoor.lawInForce
open Go Go.Proofs.YthfkajaeikhloaaGreatDoor.Xq Go.RowKit
theorem run_r1 (t : Nat → Nat) : callF Tryz.prog smSg 60 Bool ansB 3 [.sym 0, .sym 1, .sym 2] (initS (gls t) 1000 (syI 4 (-2))) isTrue = true := by kernel_rfl
end Go.Proofs.YthfkajaeikhloaaGreatDoor.lawInForce
