/- The run of the statement's function: the executor of this claim, whose soundness is proved in the texts before this one, comes out true. -/
import Derived.Test.YtmlkgejkjhlbfaaDoorRows
import Derived.Test.YtmlkgejkjhlbfaaDoorXqZ
import Derived.Test.YtmlkgejkjhlbfaaDoorXq2
import Derived.Test.YtmlkgejkjhlbfaaDoorSf
set_option maxRecDepth 1000000
namespace Go.Proofs.YtmlkgejkjhlbfaaDoor.y4Facts
open Go Go.Proofs.YtmlkgejkjhlbfaaDoor.Xq Go.RowKit
noncomputable def gls (t : Nat → Nat) : List (Nat × Nat × List AV) := [(20, t 20, ints [1000]),
 (21, t 21, ints [1, 1]),
 (22, t 22, ints [10000, 40000, 90000, 18000, 70000, 150000]),
 (23, t 23, ints [1000, 1500, 2800, 3500]),
 (14, t 14, ints [60000]),
 (2, t 2, ints [575, 1013]),
 (3, t 3, ints [62000]),
 (4, t 4, ints [10500, 42300, 95400, 19000, 74100, 159100]),
 (0, t 0, ints [1058, 1061]),
 (15, t 15, ints [1058]),
 (1, t 1, ints [4250, 7450]),
 (16, t 16, ints [1000, 1500, 2800, 3960])]
theorem gls_eq (t : Nat → Nat) : glsOf Tryd.prog t Rows.y4FactsRow.laid = gls t := by kernel_rfl
theorem run_i0_s0 (t : Nat → Nat) : callF Tryd.prog smSf 60 Bool ansB 3 [.strs 0 2, .int .i64 (0)] (initS (gls t) 1000 (syC (-9223372036854775808) 9223372036854775807 (-9223372036854775808) 9223372036854775807 (.known 3 6516841))) isTrue = true := by kernel_rfl
theorem run_i0_s3 (t : Nat → Nat) : callF Tryd.prog smSf 60 Bool ansB 3 [.strs 0 2, .int .i64 (0)] (initS (gls t) 1000 (syC (-9223372036854775808) 9223372036854775807 (-9223372036854775808) 9223372036854775807 (.known 3 7630704))) isTrue = true := by kernel_rfl
theorem run_i0_s6 (t : Nat → Nat) : callF Tryd.prog smSf 60 Bool ansB 3 [.strs 0 2, .int .i64 (0)] (initS (gls t) 1000 (syC (-9223372036854775808) 9223372036854775807 (-9223372036854775808) 9223372036854775807 (.known 5 482787554149))) isTrue = true := by kernel_rfl
theorem run_i1_s1 (t : Nat → Nat) : callF Tryd.prog smSf 60 Bool ansB 3 [.strs 0 2, .int .i64 (1)] (initS (gls t) 1000 (syC (-9223372036854775808) 9223372036854775807 (-9223372036854775808) 9223372036854775807 (.known 6 112568466435954))) isTrue = true := by kernel_rfl
theorem run_i1_s4 (t : Nat → Nat) : callF Tryd.prog smSf 60 Bool ansB 3 [.strs 0 2, .int .i64 (1)] (initS (gls t) 1000 (syC (-9223372036854775808) 9223372036854775807 (-9223372036854775808) 9223372036854775807 (.known 4 1918989413))) isTrue = true := by kernel_rfl
theorem run_i1_sx (t : Nat → Nat) : callF Tryd.prog smSf 60 Bool ansB 3 [.strs 0 2, .int .i64 (1)] (initS (gls t) 1000 (syC (-9223372036854775808) 9223372036854775807 (-9223372036854775808) 9223372036854775807 (.excl [(3, 6516841), (6, 112568466435954), (8, 8319381538418553444), (3, 7630704), (4, 1918989413), (6, 109342978500980), (5, 482787554149)]))) isTrue = true := by kernel_rfl
theorem run_i2_s2 (t : Nat → Nat) : callF Tryd.prog smSf 60 Bool ansB 3 [.strs 0 2, .int .i64 (2)] (initS (gls t) 1000 (syC (-9223372036854775808) 9223372036854775807 (-9223372036854775808) 9223372036854775807 (.known 8 8319381538418553444))) isTrue = true := by kernel_rfl
theorem run_i2_s5 (t : Nat → Nat) : callF Tryd.prog smSf 60 Bool ansB 3 [.strs 0 2, .int .i64 (2)] (initS (gls t) 1000 (syC (-9223372036854775808) 9223372036854775807 (-9223372036854775808) 9223372036854775807 (.known 6 109342978500980))) isTrue = true := by kernel_rfl
theorem run_i3_s0 (t : Nat → Nat) : callF Tryd.prog smSf 60 Bool ansB 3 [.strs 0 2, .int .i64 (3)] (initS (gls t) 1000 (syC (-9223372036854775808) 9223372036854775807 (-9223372036854775808) 9223372036854775807 (.known 3 6516841))) isTrue = true := by kernel_rfl
theorem run_i3_s3 (t : Nat → Nat) : callF Tryd.prog smSf 60 Bool ansB 3 [.strs 0 2, .int .i64 (3)] (initS (gls t) 1000 (syC (-9223372036854775808) 9223372036854775807 (-9223372036854775808) 9223372036854775807 (.known 3 7630704))) isTrue = true := by kernel_rfl
theorem run_i3_s6 (t : Nat → Nat) : callF Tryd.prog smSf 60 Bool ansB 3 [.strs 0 2, .int .i64 (3)] (initS (gls t) 1000 (syC (-9223372036854775808) 9223372036854775807 (-9223372036854775808) 9223372036854775807 (.known 5 482787554149))) isTrue = true := by kernel_rfl
theorem run_i4_s1 (t : Nat → Nat) : callF Tryd.prog smSf 60 Bool ansB 3 [.strs 0 2, .int .i64 (4)] (initS (gls t) 1000 (syC (-9223372036854775808) 9223372036854775807 (-9223372036854775808) 9223372036854775807 (.known 6 112568466435954))) isTrue = true := by kernel_rfl
theorem run_i4_s4 (t : Nat → Nat) : callF Tryd.prog smSf 60 Bool ansB 3 [.strs 0 2, .int .i64 (4)] (initS (gls t) 1000 (syC (-9223372036854775808) 9223372036854775807 (-9223372036854775808) 9223372036854775807 (.known 4 1918989413))) isTrue = true := by kernel_rfl
theorem run_i4_sx (t : Nat → Nat) : callF Tryd.prog smSf 60 Bool ansB 3 [.strs 0 2, .int .i64 (4)] (initS (gls t) 1000 (syC (-9223372036854775808) 9223372036854775807 (-9223372036854775808) 9223372036854775807 (.excl [(3, 6516841), (6, 112568466435954), (8, 8319381538418553444), (3, 7630704), (4, 1918989413), (6, 109342978500980), (5, 482787554149)]))) isTrue = true := by kernel_rfl
theorem run_i5_s2 (t : Nat → Nat) : callF Tryd.prog smSf 60 Bool ansB 3 [.strs 0 2, .int .i64 (5)] (initS (gls t) 1000 (syC (-9223372036854775808) 9223372036854775807 (-9223372036854775808) 9223372036854775807 (.known 8 8319381538418553444))) isTrue = true := by kernel_rfl
theorem run_i5_s5 (t : Nat → Nat) : callF Tryd.prog smSf 60 Bool ansB 3 [.strs 0 2, .int .i64 (5)] (initS (gls t) 1000 (syC (-9223372036854775808) 9223372036854775807 (-9223372036854775808) 9223372036854775807 (.known 6 109342978500980))) isTrue = true := by kernel_rfl
theorem run_il_s0 (t : Nat → Nat) : callF Tryd.prog smSf 60 Bool ansB 3 [.strs 0 2, .sym 0] (initS (gls t) 1000 (syC (-9223372036854775808) (-1) (-9223372036854775808) 9223372036854775807 (.known 3 6516841))) isTrue = true := by kernel_rfl
theorem run_il_s3 (t : Nat → Nat) : callF Tryd.prog smSf 60 Bool ansB 3 [.strs 0 2, .sym 0] (initS (gls t) 1000 (syC (-9223372036854775808) (-1) (-9223372036854775808) 9223372036854775807 (.known 3 7630704))) isTrue = true := by kernel_rfl
theorem run_il_s6 (t : Nat → Nat) : callF Tryd.prog smSf 60 Bool ansB 3 [.strs 0 2, .sym 0] (initS (gls t) 1000 (syC (-9223372036854775808) (-1) (-9223372036854775808) 9223372036854775807 (.known 5 482787554149))) isTrue = true := by kernel_rfl
theorem run_ih_s1 (t : Nat → Nat) : callF Tryd.prog smSf 60 Bool ansB 3 [.strs 0 2, .sym 0] (initS (gls t) 1000 (syC 6 9223372036854775807 (-9223372036854775808) 9223372036854775807 (.known 6 112568466435954))) isTrue = true := by kernel_rfl
theorem run_ih_s4 (t : Nat → Nat) : callF Tryd.prog smSf 60 Bool ansB 3 [.strs 0 2, .sym 0] (initS (gls t) 1000 (syC 6 9223372036854775807 (-9223372036854775808) 9223372036854775807 (.known 4 1918989413))) isTrue = true := by kernel_rfl
theorem run_ih_sx (t : Nat → Nat) : callF Tryd.prog smSf 60 Bool ansB 3 [.strs 0 2, .sym 0] (initS (gls t) 1000 (syC 6 9223372036854775807 (-9223372036854775808) 9223372036854775807 (.excl [(3, 6516841), (6, 112568466435954), (8, 8319381538418553444), (3, 7630704), (4, 1918989413), (6, 109342978500980), (5, 482787554149)]))) isTrue = true := by kernel_rfl
end Go.Proofs.YtmlkgejkjhlbfaaDoor.y4Facts
