/- The run of the statement's function: the executor of this claim, whose soundness is proved in the texts before this one, comes out true. -/
import Derived.Test.YtmlkgejkjhlbfaaDoorRows
import Derived.Test.YtmlkgejkjhlbfaaDoorXqZ
import Derived.Test.YtmlkgejkjhlbfaaDoorXq2
import Derived.Test.YtmlkgejkjhlbfaaDoorSe
set_option maxRecDepth 1000000
namespace Go.Proofs.YtmlkgejkjhlbfaaDoor.thirdFacts
open Go Go.Proofs.YtmlkgejkjhlbfaaDoor.Xq Go.RowKit
noncomputable def gls (t : Nat → Nat) : List (Nat × Nat × List AV) := [(25, t 25, [.any]),
 (17, t 17, [.any]),
 (18, t 18, [.any]),
 (20, t 20, ints [1000]),
 (21, t 21, ints [1, 1]),
 (22, t 22, ints [10000, 40000, 90000, 18000, 70000, 150000]),
 (23, t 23, ints [1000, 1500, 2800, 3500]),
 (14, t 14, ints [60000]),
 (7, t 7, ints [60000]),
 (6, t 6, ints [550, 975]),
 (5, t 5, ints [4100, 7150]),
 (8, t 8, ints [10200, 40900, 92100, 18400, 71600, 153600]),
 (9, t 9, ints [950, 1500, 2800, 3500]),
 (10, t 10, ints [128, 125]),
 (19, t 19, ints [1024]),
 (12, t 12, ints [62000]),
 (11, t 11, ints [4250, 7450]),
 (13, t 13, ints [10500, 42300, 95400, 19000, 74100, 159100]),
 (24, t 24, ints [1061, 1024])]
theorem gls_eq (t : Nat → Nat) : glsOf Tryd.prog t Rows.thirdFactsRow.laid = gls t := by kernel_rfl
theorem run_i0 (t : Nat → Nat) : callF Tryd.prog smSe 60 Bool ansB 11 [.strs 0 2, .int .i64 (0)] (initS (gls t) 1000 (syC (-9223372036854775808) 9223372036854775807 (-9223372036854775808) 9223372036854775807 (.excl []))) isTrue = true := by kernel_rfl
theorem run_i3 (t : Nat → Nat) : callF Tryd.prog smSe 60 Bool ansB 11 [.strs 0 2, .int .i64 (3)] (initS (gls t) 1000 (syC (-9223372036854775808) 9223372036854775807 (-9223372036854775808) 9223372036854775807 (.excl []))) isTrue = true := by kernel_rfl
theorem run_il (t : Nat → Nat) : callF Tryd.prog smSe 60 Bool ansB 11 [.strs 0 2, .sym 0] (initS (gls t) 1000 (syC (-9223372036854775808) (-1) (-9223372036854775808) 9223372036854775807 (.excl []))) isTrue = true := by kernel_rfl
end Go.Proofs.YtmlkgejkjhlbfaaDoor.thirdFacts
