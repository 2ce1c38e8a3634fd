/- The run of the statement's function: the executor of this claim, whose soundness is proved in the texts before this one, comes out true. -/
import Derived.Test.YthfkajaeikhloaaGreatDoorRows
import Derived.Test.YthfkajaeikhloaaGreatDoorXgD
import Derived.Test.YthfkajaeikhloaaGreatDoorSb
set_option maxRecDepth 1000000
namespace Go.Proofs.YthfkajaeikhloaaGreatDoor.y2Force
open Go Go.Proofs.YthfkajaeikhloaaGreatDoor.Xq Go.RowKit
noncomputable def gls (t : Nat → Nat) : List (Nat × Nat × List AV) := [(35, t 35, [.iface (t 1035) .any]),
 (30, t 30, [.iface (t 1030) .any]),
 (36, t 36, [.iface (t 1036) .any]),
 (38, t 38, [.iface (t 1038) .any]),
 (6, t 6, [.iface (t 1006) .any]),
 (32, t 32, [.iface (t 1032) .any]),
 (8, t 8, [.iface (t 1008) .any]),
 (34, t 34, [.iface (t 1034) .any]),
 (31, t 31, [.iface (t 1031) .any]),
 (33, t 33, [.iface (t 1033) .any]),
 (21, t 21, [.iface (t 1021) .any]),
 (22, t 22, [.iface (t 1022) .any]),
 (20, t 20, [.iface (t 1020) .any]),
 (1, t 1, [.iface (t 1001) .any]),
 (37, t 37, [.iface (t 1037) .any]),
 (23, t 23, ints [1000]),
 (24, t 24, ints [1, 1]),
 (18, t 18, ints [10000, 40000, 90000, 18000, 70000, 150000]),
 (19, t 19, ints [1000, 1500, 2800, 3500]),
 (2, t 2, ints [60000]),
 (5, t 5, ints [60000]),
 (4, t 4, ints [550, 975]),
 (3, t 3, ints [4100, 7150]),
 (16, t 16, ints [10200, 40900, 92100, 18400, 71600, 153600]),
 (17, t 17, ints [950, 1500, 2800, 3500]),
 (7, t 7, ints [128, 125]),
 (15, t 15, ints [1024])]
theorem gls_eq (t : Nat → Nat) : glsOf Tryz.prog t Rows.y2ForceRow.laid = gls t := by kernel_rfl

end Go.Proofs.YthfkajaeikhloaaGreatDoor.y2Force
