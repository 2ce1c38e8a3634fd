/- The run of the statement's function: the executor of this claim, whose soundness is proved in the texts before this one, comes out true. -/
import Derived.Test.YthfkajaeikhloaaGreatDoorY2ForceR0
set_option maxRecDepth 1000000
namespace Go.Proofs.YthfkajaeikhloaaGreatDoor.y2Force
open Go Go.Proofs.YthfkajaeikhloaaGreatDoor.Xq Go.RowKit
theorem run_sx (t : Nat → Nat) : callF Tryz.prog smSb 60 Bool ansB 4 [.strs 0 2, .sym 0, .sym 1] (initS (gls t) 1000 (syC (-9223372036854775808) 9223372036854775807 (-9223372036854775808) 9223372036854775807 (.excl [(17, 38173369057568756034548228006048761867365), (16, 149114722881127953259954015610073607796), (15, 582478117989624392746924662566906981), (14, 2275305148396970284167635908783732), (7, 31576257714025317), (8, 8299698059951434853), (7, 32420656992317044), (11, 131061873431810141261360485), (11, 131061873431804605065683828), (12, 33551839598546478183959653477), (8, 7811896409500967288), (11, 131061873431803561404295540), (8, 7811896409499923813), (9, 1999845480832114324339), (9, 1999845480832265577828)]))) isTrue = true := by kernel_rfl
end Go.Proofs.YthfkajaeikhloaaGreatDoor.y2Force
