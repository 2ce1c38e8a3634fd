/- The run of the statement's function: the executor of this claim, whose soundness is proved in the texts before this one, comes out true. -/
import Derived.Test.YtlnfollgpbcafaaGreatDoorRows
import Derived.Test.YtlnfollgpbcafaaGreatDoorXqZ
import Derived.Test.YtlnfollgpbcafaaGreatDoorXq2
import Derived.Test.YtlnfollgpbcafaaGreatDoorSe
set_option maxRecDepth 1000000
namespace Go.Proofs.YtlnfollgpbcafaaGreatDoor.lawNotes
open Go Go.Proofs.YtlnfollgpbcafaaGreatDoor.Xq Go.RowKit
noncomputable def gls (t : Nat → Nat) : List (Nat × Nat × List AV) := [(29, t 29, ints [1000]),
 (30, t 30, ints [1, 1]),
 (25, t 25, ints [10000, 40000, 90000, 18000, 70000, 150000]),
 (26, t 26, ints [1000, 1500, 2800, 3500]),
 (7, t 7, ints [60000]),
 (10, t 10, ints [60000]),
 (9, t 9, ints [550, 975]),
 (8, t 8, ints [4100, 7150]),
 (27, t 27, ints [10200, 40900, 92100, 18400, 71600, 153600]),
 (28, t 28, ints [950, 1500, 2800, 3500]),
 (32, t 32, ints [128, 125]),
 (31, t 31, ints [1024]),
 (1, t 1, ints [62000]),
 (0, t 0, ints [4250, 7450]),
 (16, t 16, ints [10500, 42300, 95400, 19000, 74100, 159100]),
 (15, t 15, ints [1061, 1024]),
 (12, t 12, ints [575, 1013]),
 (13, t 13, ints [62000]),
 (14, t 14, ints [10500, 42300, 95400, 19000, 74100, 159100]),
 (23, t 23, ints [1058, 1061]),
 (22, t 22, ints [1058]),
 (11, t 11, ints [4250, 7450]),
 (21, t 21, ints [1000, 1500, 2800, 3960])]
theorem gls_eq (t : Nat → Nat) : glsOf Tryz.prog t Rows.lawNotesRow.laid = gls t := by kernel_rfl

end Go.Proofs.YtlnfollgpbcafaaGreatDoor.lawNotes
