/- What is known beforehand of functions of the program, each entry from a run of the executor. -/
import Derived.Test.YtmlkgejkjhlbfaaDoorXq1
import Derived.Test.YtmlkgejkjhlbfaaDoorRows
import Derived.Test.YtmlkgejkjhlbfaaDoorSa
import Derived.Test.YtmlkgejkjhlbfaaDoorSb
import Derived.Test.YtmlkgejkjhlbfaaDoorSc
import Derived.Test.YtmlkgejkjhlbfaaDoorSd
set_option maxRecDepth 1000000
namespace Go.Proofs.YtmlkgejkjhlbfaaDoor
open Go Go.Proofs.YtmlkgejkjhlbfaaDoor.Xq
noncomputable def e18_cpi : Ent := ⟨[(15, [(.int .i64 1058)])], [(.str 3 6516841)], (.tuple [(.int .i64 1058), (.bool true)]), [], 1002⟩
theorem e18_cpi_ok : EntAt Tryd.prog 18 e18_cpi := entOk_run (by kernel_rfl) smSdok (fuel := 60) (by kernel_rfl) (by kernel_rfl) (fun t => by kernel_rfl) (by kernel_rfl)
noncomputable def e19_cpi : Ent := ⟨[], [(.str 3 6516841)], (.tuple [(.int .i64 1058), (.bool true)]), [], 1002⟩
theorem e19_cpi_ok : EntAt Tryd.prog 19 e19_cpi := entOk_run (by kernel_rfl) smSdok (fuel := 60) (by kernel_rfl) (by kernel_rfl) (fun t => by kernel_rfl) (by kernel_rfl)
noncomputable def e18_factor : Ent := ⟨[(0, [(.int .i64 1058), (.int .i64 1061)])], [(.str 6 112568466435954)], (.tuple [(.int .i64 2119), (.bool true)]), [], 1002⟩
theorem e18_factor_ok : EntAt Tryd.prog 18 e18_factor := entOk_run (by kernel_rfl) smSdok (fuel := 60) (by kernel_rfl) (by kernel_rfl) (fun t => by kernel_rfl) (by kernel_rfl)
noncomputable def e19_factor : Ent := ⟨[], [(.str 6 112568466435954)], (.tuple [(.int .i64 2119), (.bool true)]), [], 1007⟩
theorem e19_factor_ok : EntAt Tryd.prog 19 e19_factor := entOk_run (by kernel_rfl) smSdok (fuel := 60) (by kernel_rfl) (by kernel_rfl) (fun t => by kernel_rfl) (by kernel_rfl)
noncomputable def e18_standard : Ent := ⟨[(1, [(.int .i64 4250), (.int .i64 7450)])], [(.str 8 8319381538418553444)], (.tuple [(.int .i64 11700), (.bool true)]), [], 1002⟩
theorem e18_standard_ok : EntAt Tryd.prog 18 e18_standard := entOk_run (by kernel_rfl) smSdok (fuel := 60) (by kernel_rfl) (by kernel_rfl) (fun t => by kernel_rfl) (by kernel_rfl)
noncomputable def e19_standard : Ent := ⟨[], [(.str 8 8319381538418553444)], (.tuple [(.int .i64 11700), (.bool true)]), [], 1049⟩
theorem e19_standard_ok : EntAt Tryd.prog 19 e19_standard := entOk_run (by kernel_rfl) smSdok (fuel := 60) (by kernel_rfl) (by kernel_rfl) (fun t => by kernel_rfl) (by kernel_rfl)
noncomputable def e18_top : Ent := ⟨[(4, [(.int .i64 10500), (.int .i64 42300), (.int .i64 95400), (.int .i64 19000), (.int .i64 74100), (.int .i64 159100)])], [(.str 3 7630704)], (.tuple [(.int .i64 400400), (.bool true)]), [], 1002⟩
theorem e18_top_ok : EntAt Tryd.prog 18 e18_top := entOk_run (by kernel_rfl) smSdok (fuel := 60) (by kernel_rfl) (by kernel_rfl) (fun t => by kernel_rfl) (by kernel_rfl)
noncomputable def e19_top : Ent := ⟨[], [(.str 3 7630704)], (.tuple [(.int .i64 400400), (.bool true)]), [], 1151⟩
theorem e19_top_ok : EntAt Tryd.prog 19 e19_top := entOk_run (by kernel_rfl) smSdok (fuel := 60) (by kernel_rfl) (by kernel_rfl) (fun t => by kernel_rfl) (by kernel_rfl)
noncomputable def e18_rate : Ent := ⟨[(16, [(.int .i64 1000), (.int .i64 1500), (.int .i64 2800), (.int .i64 3960)])], [(.str 4 1918989413)], (.tuple [(.int .i64 9260), (.bool true)]), [], 1002⟩
theorem e18_rate_ok : EntAt Tryd.prog 18 e18_rate := entOk_run (by kernel_rfl) smSdok (fuel := 60) (by kernel_rfl) (by kernel_rfl) (fun t => by kernel_rfl) (by kernel_rfl)
noncomputable def e19_rate : Ent := ⟨[], [(.str 4 1918989413)], (.tuple [(.int .i64 9260), (.bool true)]), [], 1005⟩
theorem e19_rate_ok : EntAt Tryd.prog 19 e19_rate := entOk_run (by kernel_rfl) smSdok (fuel := 60) (by kernel_rfl) (by kernel_rfl) (fun t => by kernel_rfl) (by kernel_rfl)
noncomputable def e18_credit : Ent := ⟨[(2, [(.int .i64 575), (.int .i64 1013)])], [(.str 6 109342978500980)], (.tuple [(.int .i64 1588), (.bool true)]), [], 1002⟩
theorem e18_credit_ok : EntAt Tryd.prog 18 e18_credit := entOk_run (by kernel_rfl) smSdok (fuel := 60) (by kernel_rfl) (by kernel_rfl) (fun t => by kernel_rfl) (by kernel_rfl)
noncomputable def e19_credit : Ent := ⟨[], [(.str 6 109342978500980)], (.tuple [(.int .i64 1588), (.bool true)]), [], 1005⟩
theorem e19_credit_ok : EntAt Tryd.prog 19 e19_credit := entOk_run (by kernel_rfl) smSdok (fuel := 60) (by kernel_rfl) (by kernel_rfl) (fun t => by kernel_rfl) (by kernel_rfl)
noncomputable def e18_phase : Ent := ⟨[(3, [(.int .i64 62000)])], [(.str 5 482787554149)], (.tuple [(.int .i64 62000), (.bool true)]), [], 1002⟩
theorem e18_phase_ok : EntAt Tryd.prog 18 e18_phase := entOk_run (by kernel_rfl) smSdok (fuel := 60) (by kernel_rfl) (by kernel_rfl) (fun t => by kernel_rfl) (by kernel_rfl)
noncomputable def e19_phase : Ent := ⟨[], [(.str 5 482787554149)], (.tuple [(.int .i64 62000), (.bool true)]), [], 1004⟩
theorem e19_phase_ok : EntAt Tryd.prog 19 e19_phase := entOk_run (by kernel_rfl) smSdok (fuel := 60) (by kernel_rfl) (by kernel_rfl) (fun t => by kernel_rfl) (by kernel_rfl)
noncomputable def smSf : Sm := (.node none (.node none (.node none (.node (some [e21]) .leaf .leaf .leaf .leaf) (.node (some [e37_true, e37_false]) .leaf .leaf .leaf .leaf) (.node (some [e53]) .leaf .leaf .leaf .leaf) .leaf) (.node none (.node (some [e25]) .leaf .leaf .leaf .leaf) (.node (some [e41]) (.node (some [e105]) .leaf .leaf .leaf .leaf) .leaf .leaf .leaf) .leaf (.node (some [e73]) .leaf .leaf .leaf .leaf)) (.node (some [e13]) (.node (some [e29]) .leaf .leaf .leaf .leaf) .leaf (.node (some [e61]) .leaf .leaf .leaf .leaf) (.node (some [e77]) .leaf .leaf .leaf .leaf)) (.node none (.node (some [e33]) .leaf .leaf .leaf .leaf) (.node (some [e49]) .leaf .leaf .leaf .leaf) .leaf .leaf)) (.node none (.node none (.node (some [e22]) .leaf .leaf .leaf .leaf) (.node (some [e38]) (.node (some [e102]) .leaf .leaf .leaf .leaf) .leaf .leaf .leaf) (.node (some [e54]) .leaf .leaf .leaf .leaf) .leaf) (.node none (.node (some [e26]) .leaf .leaf .leaf .leaf) (.node none (.node (some [e106]) .leaf .leaf .leaf .leaf) .leaf .leaf .leaf) .leaf (.node (some [e74]) .leaf .leaf .leaf .leaf)) (.node none .leaf .leaf (.node (some [e62]) .leaf .leaf .leaf .leaf) .leaf) (.node (some [e18_cpi, e18_factor, e18_standard, e18_top, e18_rate, e18_credit, e18_phase]) .leaf (.node (some [e50]) .leaf .leaf .leaf .leaf) .leaf .leaf)) (.node none (.node none .leaf (.node (some [e39]) .leaf .leaf .leaf .leaf) (.node (some [e55]) .leaf .leaf .leaf .leaf) .leaf) (.node none (.node (some [e27]) .leaf .leaf .leaf .leaf) .leaf (.node (some [e59]) (.node (some [e123]) .leaf .leaf .leaf .leaf) .leaf .leaf .leaf) (.node (some [e75]) .leaf .leaf .leaf .leaf)) (.node none (.node (some [e31]) .leaf .leaf .leaf .leaf) .leaf (.node (some [e63]) .leaf .leaf .leaf .leaf) .leaf) (.node (some [e19_cpi, e19_factor, e19_standard, e19_top, e19_rate, e19_credit, e19_phase]) .leaf (.node (some [e51]) .leaf .leaf .leaf .leaf) .leaf .leaf)) (.node none (.node none (.node (some [e24]) .leaf .leaf .leaf .leaf) (.node (some [e40]) .leaf .leaf .leaf .leaf) (.node (some [e56]) .leaf .leaf .leaf .leaf) (.node (some [e72]) .leaf .leaf .leaf .leaf)) (.node none (.node (some [e28]) .leaf .leaf .leaf .leaf) .leaf (.node (some [e60_true, e60_false]) .leaf .leaf .leaf .leaf) (.node (some [e76]) .leaf .leaf .leaf .leaf)) (.node none (.node (some [e32]) .leaf .leaf .leaf .leaf) (.node (some [e48]) .leaf .leaf .leaf .leaf) .leaf .leaf) (.node none (.node (some [e36_true, e36_false]) .leaf .leaf .leaf .leaf) .leaf .leaf .leaf)))
theorem smSfok : SmOk Tryd.prog smSf := by
  have h : smSf = smTr [(21, [e21]), (22, [e22]), (24, [e24]), (25, [e25]), (38, [e38]), (39, [e39]), (40, [e40]), (41, [e41]), (48, [e48]), (49, [e49]), (59, [e59]), (62, [e62]), (63, [e63]), (72, [e72]), (73, [e73]), (56, [e56]), (77, [e77]), (102, [e102]), (105, [e105]), (123, [e123]), (36, [e36_true, e36_false]), (37, [e37_true, e37_false]), (60, [e60_true, e60_false]), (27, [e27]), (29, [e29]), (32, [e32]), (33, [e33]), (76, [e76]), (61, [e61]), (55, [e55]), (26, [e26]), (28, [e28]), (54, [e54]), (13, [e13]), (31, [e31]), (53, [e53]), (75, [e75]), (74, [e74]), (106, [e106]), (50, [e50]), (51, [e51]), (18, [e18_cpi, e18_factor, e18_standard, e18_top, e18_rate, e18_credit, e18_phase]), (19, [e19_cpi, e19_factor, e19_standard, e19_top, e19_rate, e19_credit, e19_phase])] := by kernel_rfl
  rw [h]
  refine smOk_list (by kernel_rfl) ?_
  refine List.forall_mem_cons.2 ⟨List.forall_mem_cons.2 ⟨e21_ok, fun e h => nomatch h⟩, ?_⟩
  refine List.forall_mem_cons.2 ⟨List.forall_mem_cons.2 ⟨e22_ok, fun e h => nomatch h⟩, ?_⟩
  refine List.forall_mem_cons.2 ⟨List.forall_mem_cons.2 ⟨e24_ok, fun e h => nomatch h⟩, ?_⟩
  refine List.forall_mem_cons.2 ⟨List.forall_mem_cons.2 ⟨e25_ok, fun e h => nomatch h⟩, ?_⟩
  refine List.forall_mem_cons.2 ⟨List.forall_mem_cons.2 ⟨e38_ok, fun e h => nomatch h⟩, ?_⟩
  refine List.forall_mem_cons.2 ⟨List.forall_mem_cons.2 ⟨e39_ok, fun e h => nomatch h⟩, ?_⟩
  refine List.forall_mem_cons.2 ⟨List.forall_mem_cons.2 ⟨e40_ok, fun e h => nomatch h⟩, ?_⟩
  refine List.forall_mem_cons.2 ⟨List.forall_mem_cons.2 ⟨e41_ok, fun e h => nomatch h⟩, ?_⟩
  refine List.forall_mem_cons.2 ⟨List.forall_mem_cons.2 ⟨e48_ok, fun e h => nomatch h⟩, ?_⟩
  refine List.forall_mem_cons.2 ⟨List.forall_mem_cons.2 ⟨e49_ok, fun e h => nomatch h⟩, ?_⟩
  refine List.forall_mem_cons.2 ⟨List.forall_mem_cons.2 ⟨e59_ok, fun e h => nomatch h⟩, ?_⟩
  refine List.forall_mem_cons.2 ⟨List.forall_mem_cons.2 ⟨e62_ok, fun e h => nomatch h⟩, ?_⟩
  refine List.forall_mem_cons.2 ⟨List.forall_mem_cons.2 ⟨e63_ok, fun e h => nomatch h⟩, ?_⟩
  refine List.forall_mem_cons.2 ⟨List.forall_mem_cons.2 ⟨e72_ok, fun e h => nomatch h⟩, ?_⟩
  refine List.forall_mem_cons.2 ⟨List.forall_mem_cons.2 ⟨e73_ok, fun e h => nomatch h⟩, ?_⟩
  refine List.forall_mem_cons.2 ⟨List.forall_mem_cons.2 ⟨e56_ok, fun e h => nomatch h⟩, ?_⟩
  refine List.forall_mem_cons.2 ⟨List.forall_mem_cons.2 ⟨e77_ok, fun e h => nomatch h⟩, ?_⟩
  refine List.forall_mem_cons.2 ⟨List.forall_mem_cons.2 ⟨e102_ok, fun e h => nomatch h⟩, ?_⟩
  refine List.forall_mem_cons.2 ⟨List.forall_mem_cons.2 ⟨e105_ok, fun e h => nomatch h⟩, ?_⟩
  refine List.forall_mem_cons.2 ⟨List.forall_mem_cons.2 ⟨e123_ok, fun e h => nomatch h⟩, ?_⟩
  refine List.forall_mem_cons.2 ⟨List.forall_mem_cons.2 ⟨e36_true_ok, List.forall_mem_cons.2 ⟨e36_false_ok, fun e h => nomatch h⟩⟩, ?_⟩
  refine List.forall_mem_cons.2 ⟨List.forall_mem_cons.2 ⟨e37_true_ok, List.forall_mem_cons.2 ⟨e37_false_ok, fun e h => nomatch h⟩⟩, ?_⟩
  refine List.forall_mem_cons.2 ⟨List.forall_mem_cons.2 ⟨e60_true_ok, List.forall_mem_cons.2 ⟨e60_false_ok, fun e h => nomatch h⟩⟩, ?_⟩
  refine List.forall_mem_cons.2 ⟨List.forall_mem_cons.2 ⟨e27_ok, fun e h => nomatch h⟩, ?_⟩
  refine List.forall_mem_cons.2 ⟨List.forall_mem_cons.2 ⟨e29_ok, fun e h => nomatch h⟩, ?_⟩
  refine List.forall_mem_cons.2 ⟨List.forall_mem_cons.2 ⟨e32_ok, fun e h => nomatch h⟩, ?_⟩
  refine List.forall_mem_cons.2 ⟨List.forall_mem_cons.2 ⟨e33_ok, fun e h => nomatch h⟩, ?_⟩
  refine List.forall_mem_cons.2 ⟨List.forall_mem_cons.2 ⟨e76_ok, fun e h => nomatch h⟩, ?_⟩
  refine List.forall_mem_cons.2 ⟨List.forall_mem_cons.2 ⟨e61_ok, fun e h => nomatch h⟩, ?_⟩
  refine List.forall_mem_cons.2 ⟨List.forall_mem_cons.2 ⟨e55_ok, fun e h => nomatch h⟩, ?_⟩
  refine List.forall_mem_cons.2 ⟨List.forall_mem_cons.2 ⟨e26_ok, fun e h => nomatch h⟩, ?_⟩
  refine List.forall_mem_cons.2 ⟨List.forall_mem_cons.2 ⟨e28_ok, fun e h => nomatch h⟩, ?_⟩
  refine List.forall_mem_cons.2 ⟨List.forall_mem_cons.2 ⟨e54_ok, fun e h => nomatch h⟩, ?_⟩
  refine List.forall_mem_cons.2 ⟨List.forall_mem_cons.2 ⟨e13_ok, fun e h => nomatch h⟩, ?_⟩
  refine List.forall_mem_cons.2 ⟨List.forall_mem_cons.2 ⟨e31_ok, fun e h => nomatch h⟩, ?_⟩
  refine List.forall_mem_cons.2 ⟨List.forall_mem_cons.2 ⟨e53_ok, fun e h => nomatch h⟩, ?_⟩
  refine List.forall_mem_cons.2 ⟨List.forall_mem_cons.2 ⟨e75_ok, fun e h => nomatch h⟩, ?_⟩
  refine List.forall_mem_cons.2 ⟨List.forall_mem_cons.2 ⟨e74_ok, fun e h => nomatch h⟩, ?_⟩
  refine List.forall_mem_cons.2 ⟨List.forall_mem_cons.2 ⟨e106_ok, fun e h => nomatch h⟩, ?_⟩
  refine List.forall_mem_cons.2 ⟨List.forall_mem_cons.2 ⟨e50_ok, fun e h => nomatch h⟩, ?_⟩
  refine List.forall_mem_cons.2 ⟨List.forall_mem_cons.2 ⟨e51_ok, fun e h => nomatch h⟩, ?_⟩
  refine List.forall_mem_cons.2 ⟨List.forall_mem_cons.2 ⟨e18_cpi_ok, List.forall_mem_cons.2 ⟨e18_factor_ok, List.forall_mem_cons.2 ⟨e18_standard_ok, List.forall_mem_cons.2 ⟨e18_top_ok, List.forall_mem_cons.2 ⟨e18_rate_ok, List.forall_mem_cons.2 ⟨e18_credit_ok, List.forall_mem_cons.2 ⟨e18_phase_ok, fun e h => nomatch h⟩⟩⟩⟩⟩⟩⟩, ?_⟩
  refine List.forall_mem_cons.2 ⟨List.forall_mem_cons.2 ⟨e19_cpi_ok, List.forall_mem_cons.2 ⟨e19_factor_ok, List.forall_mem_cons.2 ⟨e19_standard_ok, List.forall_mem_cons.2 ⟨e19_top_ok, List.forall_mem_cons.2 ⟨e19_rate_ok, List.forall_mem_cons.2 ⟨e19_credit_ok, List.forall_mem_cons.2 ⟨e19_phase_ok, fun e h => nomatch h⟩⟩⟩⟩⟩⟩⟩, ?_⟩
  exact fun x h => nomatch h
end Go.Proofs.YtmlkgejkjhlbfaaDoor
