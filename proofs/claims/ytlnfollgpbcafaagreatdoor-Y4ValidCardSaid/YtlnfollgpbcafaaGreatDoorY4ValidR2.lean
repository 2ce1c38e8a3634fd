/- The run of the statement's function: the executor of this claim, whose soundness is proved in the texts before this one, comes out true. -/
import Derived.Test.YtlnfollgpbcafaaGreatDoorY4ValidR0
set_option maxRecDepth 1000000
namespace Go.Proofs.YtlnfollgpbcafaaGreatDoor.y4Valid
open Go Go.Proofs.YtlnfollgpbcafaaGreatDoor.Xq Go.RowKit
theorem run_r2 (t : Nat → Nat) : callF Tryz.prog smSd 60 Bool ansB 5 [.sym 0] (initS (gls t) 1000 (syR 12 (-9))) isTrue = true := by kernel_rfl
theorem run_r5 (t : Nat → Nat) : callF Tryz.prog smSd 60 Bool ansB 5 [.sym 0] (initS (gls t) 1000 (syR 12 (-6))) isTrue = true := by kernel_rfl
theorem run_r8 (t : Nat → Nat) : callF Tryz.prog smSd 60 Bool ansB 5 [.sym 0] (initS (gls t) 1000 (syR 12 (-3))) isTrue = true := by kernel_rfl
theorem run_r11 (t : Nat → Nat) : callF Tryz.prog smSd 60 Bool ansB 5 [.sym 0] (initS (gls t) 1000 (syR 12 (0))) isTrue = true := by kernel_rfl
theorem run_r14 (t : Nat → Nat) : callF Tryz.prog smSd 60 Bool ansB 5 [.sym 0] (initS (gls t) 1000 (syR 12 (3))) isTrue = true := by kernel_rfl
theorem run_r17 (t : Nat → Nat) : callF Tryz.prog smSd 60 Bool ansB 5 [.sym 0] (initS (gls t) 1000 (syR 12 (6))) isTrue = true := by kernel_rfl
theorem run_r20 (t : Nat → Nat) : callF Tryz.prog smSd 60 Bool ansB 5 [.sym 0] (initS (gls t) 1000 (syR 12 (9))) isTrue = true := by kernel_rfl
end Go.Proofs.YtlnfollgpbcafaaGreatDoor.y4Valid
