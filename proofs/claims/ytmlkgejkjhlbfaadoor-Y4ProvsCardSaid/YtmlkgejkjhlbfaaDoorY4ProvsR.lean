/- The run of the statement's function: the executor of this claim, whose soundness is proved in the texts before this one, comes out true. -/
import Derived.Test.YtmlkgejkjhlbfaaDoorRows
import Derived.Test.YtmlkgejkjhlbfaaDoorXqZ
import Derived.Test.YtmlkgejkjhlbfaaDoorSd
set_option maxRecDepth 1000000
namespace Go.Proofs.YtmlkgejkjhlbfaaDoor.y4Provs
open Go Go.Proofs.YtmlkgejkjhlbfaaDoor.Xq Go.RowKit
noncomputable def gls (t : Nat → Nat) : List (Nat × Nat × List AV) := [(25, t 25, [.any]),
 (17, t 17, [.any]),
 (20, t 20, ints [1000]),
 (21, t 21, ints [1, 1]),
 (22, t 22, ints [10000, 40000, 90000, 18000, 70000, 150000]),
 (23, t 23, ints [1000, 1500, 2800, 3500]),
 (14, t 14, ints [60000]),
 (2, t 2, ints [575, 1013]),
 (3, t 3, ints [62000]),
 (4, t 4, ints [10500, 42300, 95400, 19000, 74100, 159100]),
 (0, t 0, ints [1058, 1061]),
 (15, t 15, ints [1058]),
 (1, t 1, ints [4250, 7450]),
 (16, t 16, ints [1000, 1500, 2800, 3960])]
theorem gls_eq (t : Nat → Nat) : glsOf Tryd.prog t Rows.y4ProvsRow.laid = gls t := by kernel_rfl
theorem run (t : Nat → Nat) : callF Tryd.prog smSd 60 Bool ansB 4 [.sym 0, .sym 1] (initS (gls t) 1000 sy2) isTrue = true := by kernel_rfl
end Go.Proofs.YtmlkgejkjhlbfaaDoor.y4Provs
