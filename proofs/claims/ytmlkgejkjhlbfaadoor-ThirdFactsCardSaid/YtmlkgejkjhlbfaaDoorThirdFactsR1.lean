/- The run of the statement's function: the executor of this claim, whose soundness is proved in the texts before this one, comes out true. -/
import Derived.Test.YtmlkgejkjhlbfaaDoorThirdFactsR0
set_option maxRecDepth 1000000
namespace Go.Proofs.YtmlkgejkjhlbfaaDoor.thirdFacts
open Go Go.Proofs.YtmlkgejkjhlbfaaDoor.Xq Go.RowKit
theorem run_i1 (t : Nat → Nat) : callF Tryd.prog smSe 60 Bool ansB 11 [.strs 0 2, .int .i64 (1)] (initS (gls t) 1000 (syC (-9223372036854775808) 9223372036854775807 (-9223372036854775808) 9223372036854775807 (.excl []))) isTrue = true := by kernel_rfl
theorem run_i4 (t : Nat → Nat) : callF Tryd.prog smSe 60 Bool ansB 11 [.strs 0 2, .int .i64 (4)] (initS (gls t) 1000 (syC (-9223372036854775808) 9223372036854775807 (-9223372036854775808) 9223372036854775807 (.excl []))) isTrue = true := by kernel_rfl
theorem run_ih (t : Nat → Nat) : callF Tryd.prog smSe 60 Bool ansB 11 [.strs 0 2, .sym 0] (initS (gls t) 1000 (syC 6 9223372036854775807 (-9223372036854775808) 9223372036854775807 (.excl []))) isTrue = true := by kernel_rfl
end Go.Proofs.YtmlkgejkjhlbfaaDoor.thirdFacts
