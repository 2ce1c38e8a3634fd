/- The run of the statement's function: the executor of this claim, whose soundness is proved in the texts before this one, comes out true. -/
import Derived.Test.YtlnfollgpbcafaaGreatDoorY4ValidR0
set_option maxRecDepth 1000000
namespace Go.Proofs.YtlnfollgpbcafaaGreatDoor.y4Valid
open Go Go.Proofs.YtlnfollgpbcafaaGreatDoor.Xq Go.RowKit
theorem run_r1 (t : Nat → Nat) : callF Tryz.prog smSd 60 Bool ansB 5 [.sym 0] (initS (gls t) 1000 (syR 12 (-10))) isTrue = true := by kernel_rfl
theorem run_r4 (t : Nat → Nat) : callF Tryz.prog smSd 60 Bool ansB 5 [.sym 0] (initS (gls t) 1000 (syR 12 (-7))) isTrue = true := by kernel_rfl
theorem run_r7 (t : Nat → Nat) : callF Tryz.prog smSd 60 Bool ansB 5 [.sym 0] (initS (gls t) 1000 (syR 12 (-4))) isTrue = true := by kernel_rfl
theorem run_r10 (t : Nat → Nat) : callF Tryz.prog smSd 60 Bool ansB 5 [.sym 0] (initS (gls t) 1000 (syR 12 (-1))) isTrue = true := by kernel_rfl
theorem run_r13 (t : Nat → Nat) : callF Tryz.prog smSd 60 Bool ansB 5 [.sym 0] (initS (gls t) 1000 (syR 12 (2))) isTrue = true := by kernel_rfl
theorem run_r16 (t : Nat → Nat) : callF Tryz.prog smSd 60 Bool ansB 5 [.sym 0] (initS (gls t) 1000 (syR 12 (5))) isTrue = true := by kernel_rfl
theorem run_r19 (t : Nat → Nat) : callF Tryz.prog smSd 60 Bool ansB 5 [.sym 0] (initS (gls t) 1000 (syR 12 (8))) isTrue = true := by kernel_rfl
theorem run_r22 (t : Nat → Nat) : callF Tryz.prog smSd 60 Bool ansB 5 [.sym 0] (initS (gls t) 1000 (syR 12 (11))) isTrue = true := by kernel_rfl
end Go.Proofs.YtlnfollgpbcafaaGreatDoor.y4Valid
