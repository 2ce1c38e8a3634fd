/- The run of the statement's function: the executor of this claim, whose soundness is proved in the texts before this one, comes out true. -/
import Derived.Test.YtlnfollgpbcafaaGreatDoorThirdProvsR0
set_option maxRecDepth 1000000
namespace Go.Proofs.YtlnfollgpbcafaaGreatDoor.thirdProvs
open Go Go.Proofs.YtlnfollgpbcafaaGreatDoor.Xq Go.RowKit
theorem run_i1 (t : Nat → Nat) : callF Tryz.prog smSd 60 Bool ansB 4 [.int .i64 (1)] (initS (gls t) 1000 (syC (-9223372036854775808) 9223372036854775807 (-9223372036854775808) 9223372036854775807 (.excl []))) isTrue = true := by kernel_rfl
theorem run_i3 (t : Nat → Nat) : callF Tryz.prog smSd 60 Bool ansB 4 [.int .i64 (3)] (initS (gls t) 1000 (syC (-9223372036854775808) 9223372036854775807 (-9223372036854775808) 9223372036854775807 (.excl []))) isTrue = true := by kernel_rfl
theorem run_i5 (t : Nat → Nat) : callF Tryz.prog smSd 60 Bool ansB 4 [.int .i64 (5)] (initS (gls t) 1000 (syC (-9223372036854775808) 9223372036854775807 (-9223372036854775808) 9223372036854775807 (.excl []))) isTrue = true := by kernel_rfl
theorem run_i7 (t : Nat → Nat) : callF Tryz.prog smSd 60 Bool ansB 4 [.int .i64 (7)] (initS (gls t) 1000 (syC (-9223372036854775808) 9223372036854775807 (-9223372036854775808) 9223372036854775807 (.excl []))) isTrue = true := by kernel_rfl
theorem run_i9 (t : Nat → Nat) : callF Tryz.prog smSd 60 Bool ansB 4 [.int .i64 (9)] (initS (gls t) 1000 (syC (-9223372036854775808) 9223372036854775807 (-9223372036854775808) 9223372036854775807 (.excl []))) isTrue = true := by kernel_rfl
theorem run_il (t : Nat → Nat) : callF Tryz.prog smSd 60 Bool ansB 4 [.sym 0] (initS (gls t) 1000 (syC (-9223372036854775808) (-1) (-9223372036854775808) 9223372036854775807 (.excl []))) isTrue = true := by kernel_rfl
end Go.Proofs.YtlnfollgpbcafaaGreatDoor.thirdProvs
