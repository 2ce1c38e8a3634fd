/- The run of the statement's function: the executor of this claim, whose soundness is proved in the texts before this one, comes out true. -/
import Derived.Test.YthfkajaeikhloaaGreatDoorRows
import Derived.Test.YthfkajaeikhloaaGreatDoorXgD
import Derived.Test.YthfkajaeikhloaaGreatDoorXgE
import Derived.Test.YthfkajaeikhloaaGreatDoorSg
set_option maxRecDepth 1000000
namespace Go.Proofs.YthfkajaeikhloaaGreatDoor.lawEach
open Go Go.Proofs.YthfkajaeikhloaaGreatDoor.Xq Go.RowKit
noncomputable def gls (t : Nat → Nat) : List (Nat × Nat × List AV) := [(35, t 35, [.iface 276 (.optr 535)]),
 (30, t 30, [.iface 276 (.optr 530)]),
 (36, t 36, [.iface 276 (.optr 536)]),
 (38, t 38, [.iface 276 (.optr 538)]),
 (6, t 6, [.iface 276 (.optr 506)]),
 (32, t 32, [.iface 276 (.optr 532)]),
 (8, t 8, [.iface 276 (.optr 508)]),
 (34, t 34, [.iface 276 (.optr 534)]),
 (31, t 31, [.iface 276 (.optr 531)]),
 (33, t 33, [.iface 276 (.optr 533)]),
 (21, t 21, [.iface 276 (.optr 521)]),
 (22, t 22, [.iface 276 (.optr 522)]),
 (20, t 20, [.iface 276 (.optr 520)]),
 (1, t 1, [.iface 276 (.optr 501)]),
 (37, t 37, [.iface 276 (.optr 537)]),
 (0, t 0, [.iface 276 (.optr 500)]),
 (23, t 23, ints [1000]),
 (24, t 24, ints [1, 1]),
 (18, t 18, ints [10000, 40000, 90000, 18000, 70000, 150000]),
 (19, t 19, ints [1000, 1500, 2800, 3500]),
 (2, t 2, ints [60000]),
 (5, t 5, ints [60000]),
 (4, t 4, ints [550, 975]),
 (3, t 3, ints [4100, 7150]),
 (16, t 16, ints [10200, 40900, 92100, 18400, 71600, 153600]),
 (17, t 17, ints [950, 1500, 2800, 3500]),
 (7, t 7, ints [128, 125]),
 (15, t 15, ints [1024]),
 (10, t 10, ints [62000]),
 (9, t 9, ints [4250, 7450]),
 (26, t 26, ints [10500, 42300, 95400, 19000, 74100, 159100]),
 (25, t 25, ints [1061, 1024]),
 (12, t 12, ints [575, 1013]),
 (13, t 13, ints [62000]),
 (14, t 14, ints [10500, 42300, 95400, 19000, 74100, 159100]),
 (28, t 28, ints [1058, 1061]),
 (27, t 27, ints [1058]),
 (11, t 11, ints [4250, 7450]),
 (29, t 29, ints [1000, 1500, 2800, 3960])]
theorem gls_eq (t : Nat → Nat) : glsE Tryz.prog t 276 Rows.lawEachRow.laid = gls t := by kernel_rfl

end Go.Proofs.YthfkajaeikhloaaGreatDoor.lawEach
