/- What is known beforehand of functions of the program, each entry from a run of the executor. -/
import Derived.Test.YtoafcdnkoecgiaaDoorXq1
import Derived.Test.YtoafcdnkoecgiaaDoorRows
import Derived.Test.YtoafcdnkoecgiaaDoorSa
import Derived.Test.YtoafcdnkoecgiaaDoorSb
import Derived.Test.YtoafcdnkoecgiaaDoorSc
set_option maxRecDepth 1000000
namespace Go.Proofs.YtoafcdnkoecgiaaDoor
open Go Go.Proofs.YtoafcdnkoecgiaaDoor.Xq
noncomputable def e9 : Ent := ⟨[(6, [(.int .i64 60000)]), (3, [(.int .i64 575), (.int .i64 1013)]), (4, [(.int .i64 62000)]), (14, [(.int .i64 1058), (.int .i64 1061)])], [], (.bool true), [], 1010⟩
theorem e9_ok : EntAt Tryd.prog 9 e9 := entOk_run (by kernel_rfl) smScok (fuel := 60) (by kernel_rfl) (by kernel_rfl) (fun t => by kernel_rfl) (by kernel_rfl)
noncomputable def e15 : Ent := ⟨[(8, [(.int .i64 550), (.int .i64 975)]), (26, [(.int .i64 950), (.int .i64 1500), (.int .i64 2800), (.int .i64 3500)]), (1, [(.int .i64 62000)]), (0, [(.int .i64 4250), (.int .i64 7450)]), (21, [(.int .i64 10500), (.int .i64 42300), (.int .i64 95400), (.int .i64 19000), (.int .i64 74100), (.int .i64 159100)]), (15, [(.int .i64 1061), (.int .i64 1024)])], [], (.bool true), [], 1547⟩
theorem e15_ok : EntAt Tryd.prog 15 e15 := entOk_run (by kernel_rfl) smScok (fuel := 60) (by kernel_rfl) (by kernel_rfl) (fun t => by kernel_rfl) (by kernel_rfl)
noncomputable def e30 : Ent := ⟨[(30, [(.int .i64 1000), (.int .i64 1500), (.int .i64 2800), (.int .i64 3500)]), (9, [(.int .i64 60000)]), (8, [(.int .i64 550), (.int .i64 975)]), (7, [(.int .i64 4100), (.int .i64 7150)]), (25, [(.int .i64 10200), (.int .i64 40900), (.int .i64 92100), (.int .i64 18400), (.int .i64 71600), (.int .i64 153600)]), (26, [(.int .i64 950), (.int .i64 1500), (.int .i64 2800), (.int .i64 3500)]), (24, [(.int .i64 128), (.int .i64 125)])], [], (.bool true), [], 1132⟩
theorem e30_ok : EntAt Tryd.prog 30 e30 := entOk_run (by kernel_rfl) smScok (fuel := 60) (by kernel_rfl) (by kernel_rfl) (fun t => by kernel_rfl) (by kernel_rfl)
noncomputable def smSd : Sm := ⟨(.node none (.node none (.node none (.node none (.node (some [e85]) .leaf .leaf .leaf .leaf) .leaf .leaf .leaf) (.node (some [e37]) .leaf .leaf .leaf .leaf) .leaf .leaf) (.node (some [e9]) .leaf .leaf .leaf .leaf) (.node (some [e13]) (.node (some [e29]) .leaf .leaf .leaf .leaf) (.node (some [e45]) .leaf .leaf .leaf .leaf) .leaf .leaf) (.node (some [e17]) .leaf (.node none (.node (some [e113]) .leaf .leaf .leaf .leaf) .leaf .leaf .leaf) .leaf .leaf)) (.node none (.node none (.node (some [e22]) .leaf .leaf .leaf .leaf) .leaf .leaf .leaf) (.node (some [e10]) .leaf .leaf (.node (some [e58]) .leaf .leaf .leaf .leaf) .leaf) (.node none (.node (some [e30]) (.node (some [e94]) .leaf .leaf .leaf .leaf) .leaf .leaf .leaf) (.node (some [e46]) .leaf .leaf .leaf .leaf) (.node (some [e62]) .leaf .leaf .leaf .leaf) .leaf) (.node (some [e18]) .leaf (.node (some [e50_true, e50_false]) (.node (some [e114_true, e114_false]) .leaf .leaf .leaf .leaf) .leaf .leaf .leaf) .leaf .leaf)) (.node none (.node none (.node (some [e23]) .leaf .leaf .leaf .leaf) .leaf .leaf .leaf) (.node (some [e11]) .leaf .leaf .leaf .leaf) (.node (some [e15]) .leaf (.node none (.node (some [e111]) .leaf .leaf .leaf .leaf) .leaf .leaf .leaf) .leaf .leaf) (.node none .leaf (.node none (.node (some [e115_true, e115_false]) .leaf .leaf .leaf .leaf) .leaf .leaf .leaf) .leaf (.node (some [e83]) .leaf .leaf .leaf .leaf))) (.node none .leaf (.node none (.node none (.node (some [e92]) .leaf .leaf .leaf .leaf) .leaf .leaf .leaf) .leaf (.node (some [e60]) .leaf .leaf .leaf .leaf) .leaf) (.node (some [e16]) .leaf .leaf (.node (some [e64]) .leaf .leaf .leaf .leaf) .leaf) (.node (some [e20]) .leaf .leaf .leaf (.node (some [e84]) .leaf .leaf .leaf .leaf)))), xsT⟩
theorem smSdok : SmOk Tryd.prog smSd := by
  have h : smSd = ⟨trL [(20, [e20]), (29, [e29]), (37, [e37]), (45, [e45]), (46, [e46]), (58, [e58]), (62, [e62]), (64, [e64]), (84, [e84]), (85, [e85]), (92, [e92]), (50, [e50_true, e50_false]), (115, [e115_true, e115_false]), (114, [e114_true, e114_false]), (83, [e83]), (111, [e111]), (94, [e94]), (113, [e113]), (10, [e10]), (22, [e22]), (23, [e23]), (11, [e11]), (13, [e13]), (17, [e17]), (60, [e60]), (18, [e18]), (16, [e16]), (9, [e9]), (15, [e15]), (30, [e30])], xsT⟩ := by kernel_rfl
  rw [h, xsT_eq]
  refine smOk_list (by kernel_rfl) ?_ ?_
  rotate_left
  · refine List.forall_mem_cons.2 ⟨ext_count Tryd.func188 (by kernel_rfl) (by kernel_rfl) (by kernel_rfl) (by kernel_rfl), ?_⟩
    refine List.forall_mem_cons.2 ⟨ext_index Tryd.func195 (by kernel_rfl) (by kernel_rfl) (by kernel_rfl) (by kernel_rfl), ?_⟩
    exact fun x h => nomatch h
  refine List.forall_mem_cons.2 ⟨List.forall_mem_cons.2 ⟨e20_ok, fun e h => nomatch h⟩, ?_⟩
  refine List.forall_mem_cons.2 ⟨List.forall_mem_cons.2 ⟨e29_ok, fun e h => nomatch h⟩, ?_⟩
  refine List.forall_mem_cons.2 ⟨List.forall_mem_cons.2 ⟨e37_ok, fun e h => nomatch h⟩, ?_⟩
  refine List.forall_mem_cons.2 ⟨List.forall_mem_cons.2 ⟨e45_ok, fun e h => nomatch h⟩, ?_⟩
  refine List.forall_mem_cons.2 ⟨List.forall_mem_cons.2 ⟨e46_ok, fun e h => nomatch h⟩, ?_⟩
  refine List.forall_mem_cons.2 ⟨List.forall_mem_cons.2 ⟨e58_ok, fun e h => nomatch h⟩, ?_⟩
  refine List.forall_mem_cons.2 ⟨List.forall_mem_cons.2 ⟨e62_ok, fun e h => nomatch h⟩, ?_⟩
  refine List.forall_mem_cons.2 ⟨List.forall_mem_cons.2 ⟨e64_ok, fun e h => nomatch h⟩, ?_⟩
  refine List.forall_mem_cons.2 ⟨List.forall_mem_cons.2 ⟨e84_ok, fun e h => nomatch h⟩, ?_⟩
  refine List.forall_mem_cons.2 ⟨List.forall_mem_cons.2 ⟨e85_ok, fun e h => nomatch h⟩, ?_⟩
  refine List.forall_mem_cons.2 ⟨List.forall_mem_cons.2 ⟨e92_ok, fun e h => nomatch h⟩, ?_⟩
  refine List.forall_mem_cons.2 ⟨List.forall_mem_cons.2 ⟨e50_true_ok, List.forall_mem_cons.2 ⟨e50_false_ok, fun e h => nomatch h⟩⟩, ?_⟩
  refine List.forall_mem_cons.2 ⟨List.forall_mem_cons.2 ⟨e115_true_ok, List.forall_mem_cons.2 ⟨e115_false_ok, fun e h => nomatch h⟩⟩, ?_⟩
  refine List.forall_mem_cons.2 ⟨List.forall_mem_cons.2 ⟨e114_true_ok, List.forall_mem_cons.2 ⟨e114_false_ok, fun e h => nomatch h⟩⟩, ?_⟩
  refine List.forall_mem_cons.2 ⟨List.forall_mem_cons.2 ⟨e83_ok, fun e h => nomatch h⟩, ?_⟩
  refine List.forall_mem_cons.2 ⟨List.forall_mem_cons.2 ⟨e111_ok, fun e h => nomatch h⟩, ?_⟩
  refine List.forall_mem_cons.2 ⟨List.forall_mem_cons.2 ⟨e94_ok, fun e h => nomatch h⟩, ?_⟩
  refine List.forall_mem_cons.2 ⟨List.forall_mem_cons.2 ⟨e113_ok, fun e h => nomatch h⟩, ?_⟩
  refine List.forall_mem_cons.2 ⟨List.forall_mem_cons.2 ⟨e10_ok, fun e h => nomatch h⟩, ?_⟩
  refine List.forall_mem_cons.2 ⟨List.forall_mem_cons.2 ⟨e22_ok, fun e h => nomatch h⟩, ?_⟩
  refine List.forall_mem_cons.2 ⟨List.forall_mem_cons.2 ⟨e23_ok, fun e h => nomatch h⟩, ?_⟩
  refine List.forall_mem_cons.2 ⟨List.forall_mem_cons.2 ⟨e11_ok, fun e h => nomatch h⟩, ?_⟩
  refine List.forall_mem_cons.2 ⟨List.forall_mem_cons.2 ⟨e13_ok, fun e h => nomatch h⟩, ?_⟩
  refine List.forall_mem_cons.2 ⟨List.forall_mem_cons.2 ⟨e17_ok, fun e h => nomatch h⟩, ?_⟩
  refine List.forall_mem_cons.2 ⟨List.forall_mem_cons.2 ⟨e60_ok, fun e h => nomatch h⟩, ?_⟩
  refine List.forall_mem_cons.2 ⟨List.forall_mem_cons.2 ⟨e18_ok, fun e h => nomatch h⟩, ?_⟩
  refine List.forall_mem_cons.2 ⟨List.forall_mem_cons.2 ⟨e16_ok, fun e h => nomatch h⟩, ?_⟩
  refine List.forall_mem_cons.2 ⟨List.forall_mem_cons.2 ⟨e9_ok, fun e h => nomatch h⟩, ?_⟩
  refine List.forall_mem_cons.2 ⟨List.forall_mem_cons.2 ⟨e15_ok, fun e h => nomatch h⟩, ?_⟩
  refine List.forall_mem_cons.2 ⟨List.forall_mem_cons.2 ⟨e30_ok, fun e h => nomatch h⟩, ?_⟩
  exact fun x h => nomatch h
end Go.Proofs.YtoafcdnkoecgiaaDoor
