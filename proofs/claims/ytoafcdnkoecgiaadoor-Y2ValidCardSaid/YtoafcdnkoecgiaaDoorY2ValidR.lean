/- The run of the statement's function: the executor of this claim, whose soundness is proved in the texts before this one, comes out true. -/
import Derived.Test.YtoafcdnkoecgiaaDoorRows
import Derived.Test.YtoafcdnkoecgiaaDoorXqZ
import Derived.Test.YtoafcdnkoecgiaaDoorXq2
import Derived.Test.YtoafcdnkoecgiaaDoorSd
set_option maxRecDepth 1000000
namespace Go.Proofs.YtoafcdnkoecgiaaDoor.y2Valid
open Go Go.Proofs.YtoafcdnkoecgiaaDoor.Xq Go.RowKit
noncomputable def gls (t : Nat → Nat) : List (Nat × Nat × List AV) := [(13, t 13, [.iface (t 1013) .any]),
 (10, t 10, [.iface (t 1010) .any]),
 (11, t 11, [.iface (t 1011) .any]),
 (12, t 12, [.iface (t 1012) .any]),
 (18, t 18, [.iface (t 1018) .any]),
 (17, t 17, [.iface (t 1017) .any]),
 (16, t 16, [.iface (t 1016) .any]),
 (20, t 20, [.iface (t 1020) .any]),
 (31, t 31, [.iface (t 1031) .any]),
 (19, t 19, [.iface (t 1019) .any]),
 (32, t 32, [.iface (t 1032) .any]),
 (27, t 27, ints [1000]),
 (28, t 28, ints [1, 1]),
 (29, t 29, ints [10000, 40000, 90000, 18000, 70000, 150000]),
 (30, t 30, ints [1000, 1500, 2800, 3500]),
 (6, t 6, ints [60000]),
 (9, t 9, ints [60000]),
 (8, t 8, ints [550, 975]),
 (7, t 7, ints [4100, 7150]),
 (25, t 25, ints [10200, 40900, 92100, 18400, 71600, 153600]),
 (26, t 26, ints [950, 1500, 2800, 3500]),
 (24, t 24, ints [128, 125]),
 (23, t 23, ints [1024])]
theorem gls_eq (t : Nat → Nat) : glsOf Tryd.prog t Rows.y2ValidRow.laid = gls t := by kernel_rfl
theorem run (t : Nat → Nat) : callF Tryd.prog smSd 60 Bool ansB 8 [.sym 0] (initS (gls t) 1000 sy2) isTrue = true := by kernel_rfl
end Go.Proofs.YtoafcdnkoecgiaaDoor.y2Valid
