/- What is known beforehand of functions of the program, each entry from a run of the executor. -/
import Derived.Test.YtmlkgejkjhlbfaaDoorXq1
import Derived.Test.YtmlkgejkjhlbfaaDoorRows
set_option maxRecDepth 1000000
namespace Go.Proofs.YtmlkgejkjhlbfaaDoor
open Go Go.Proofs.YtmlkgejkjhlbfaaDoor.Xq
noncomputable def e21 : Ent := ⟨[], [], (.slice 1000 0 7 7), [(1000, (.cells [(.str 3 6516841), (.str 6 112568466435954), (.str 8 8319381538418553444), (.str 3 7630704), (.str 4 1918989413), (.str 6 109342978500980), (.str 5 482787554149)] 9 true))], 1001⟩
theorem e21_ok : EntAt Tryd.prog 21 e21 := entOk_run (by kernel_rfl) smOk0 (fuel := 60) (by kernel_rfl) (by kernel_rfl) (fun t => by kernel_rfl) (by kernel_rfl)
noncomputable def e22 : Ent := ⟨[], [], (.slice 1000 0 7 7), [(1000, (.cells [(.str 3 6516841), (.str 6 112568466435954), (.str 8 8319381538418553444), (.str 3 7630704), (.str 4 1918989413), (.str 6 109342978500980), (.str 5 482787554149)] 9 true))], 1001⟩
theorem e22_ok : EntAt Tryd.prog 22 e22 := entOk_run (by kernel_rfl) smOk0 (fuel := 60) (by kernel_rfl) (by kernel_rfl) (fun t => by kernel_rfl) (by kernel_rfl)
noncomputable def e24 : Ent := ⟨[(0, [(.int .i64 1058), (.int .i64 1061)])], [], (.agg [(.int .i64 1058), (.int .i64 1061)]), [], 1001⟩
theorem e24_ok : EntAt Tryd.prog 24 e24 := entOk_run (by kernel_rfl) smOk0 (fuel := 60) (by kernel_rfl) (by kernel_rfl) (fun t => by kernel_rfl) (by kernel_rfl)
noncomputable def e25 : Ent := ⟨[], [], (.agg [(.int .i64 1058), (.int .i64 1061)]), [], 1005⟩
theorem e25_ok : EntAt Tryd.prog 25 e25 := entOk_run (by kernel_rfl) smOk0 (fuel := 60) (by kernel_rfl) (by kernel_rfl) (fun t => by kernel_rfl) (by kernel_rfl)
noncomputable def e38 : Ent := ⟨[], [], (.agg [(.int .i64 730850), (.int .i64 731215)]), [], 1001⟩
theorem e38_ok : EntAt Tryd.prog 38 e38 := entOk_run (by kernel_rfl) smOk0 (fuel := 60) (by kernel_rfl) (by kernel_rfl) (fun t => by kernel_rfl) (by kernel_rfl)
noncomputable def e39 : Ent := ⟨[], [], (.int .i64 730819), [], 1000⟩
theorem e39_ok : EntAt Tryd.prog 39 e39 := entOk_run (by kernel_rfl) smOk0 (fuel := 60) (by kernel_rfl) (by kernel_rfl) (fun t => by kernel_rfl) (by kernel_rfl)
noncomputable def e40 : Ent := ⟨[(10, [(.int .i64 128), (.int .i64 125)])], [], (.agg [(.int .i64 128), (.int .i64 125)]), [], 1001⟩
theorem e40_ok : EntAt Tryd.prog 40 e40 := entOk_run (by kernel_rfl) smOk0 (fuel := 60) (by kernel_rfl) (by kernel_rfl) (fun t => by kernel_rfl) (by kernel_rfl)
noncomputable def e41 : Ent := ⟨[], [], (.agg [(.int .i64 128), (.int .i64 125)]), [], 1005⟩
theorem e41_ok : EntAt Tryd.prog 41 e41 := entOk_run (by kernel_rfl) smOk0 (fuel := 60) (by kernel_rfl) (by kernel_rfl) (fun t => by kernel_rfl) (by kernel_rfl)
noncomputable def e48 : Ent := ⟨[], [], (.slice 1000 0 7 7), [(1000, (.cells [(.str 3 6516841), (.str 6 112568466435954), (.str 8 8319381538418553444), (.str 3 7630704), (.str 4 1918989413), (.str 6 109342978500980), (.str 5 482787554149)] 9 true))], 1001⟩
theorem e48_ok : EntAt Tryd.prog 48 e48 := entOk_run (by kernel_rfl) smOk0 (fuel := 60) (by kernel_rfl) (by kernel_rfl) (fun t => by kernel_rfl) (by kernel_rfl)
noncomputable def e49 : Ent := ⟨[], [], (.slice 1000 0 7 7), [(1000, (.cells [(.str 3 6516841), (.str 6 112568466435954), (.str 8 8319381538418553444), (.str 3 7630704), (.str 4 1918989413), (.str 6 109342978500980), (.str 5 482787554149)] 9 true))], 1001⟩
theorem e49_ok : EntAt Tryd.prog 49 e49 := entOk_run (by kernel_rfl) smOk0 (fuel := 60) (by kernel_rfl) (by kernel_rfl) (fun t => by kernel_rfl) (by kernel_rfl)
noncomputable def e59 : Ent := ⟨[], [], (.slice 1000 0 7 7), [(1000, (.cells [(.str 3 6516841), (.str 6 112568466435954), (.str 8 8319381538418553444), (.str 3 7630704), (.str 4 1918989413), (.str 6 109342978500980), (.str 5 482787554149)] 9 true))], 1001⟩
theorem e59_ok : EntAt Tryd.prog 59 e59 := entOk_run (by kernel_rfl) smOk0 (fuel := 60) (by kernel_rfl) (by kernel_rfl) (fun t => by kernel_rfl) (by kernel_rfl)
noncomputable def e62 : Ent := ⟨[], [], (.slice 1000 0 7 7), [(1000, (.cells [(.str 3 6516841), (.str 6 112568466435954), (.str 8 8319381538418553444), (.str 3 7630704), (.str 4 1918989413), (.str 6 109342978500980), (.str 5 482787554149)] 9 true))], 1001⟩
theorem e62_ok : EntAt Tryd.prog 62 e62 := entOk_run (by kernel_rfl) smOk0 (fuel := 60) (by kernel_rfl) (by kernel_rfl) (fun t => by kernel_rfl) (by kernel_rfl)
noncomputable def e63 : Ent := ⟨[], [], (.slice 1000 0 2 2), [(1000, (.cells [(.str 14 2458226553575165206360669087558757), (.str 13 9602447474902989087307809255028)] 9 true))], 1001⟩
theorem e63_ok : EntAt Tryd.prog 63 e63 := entOk_run (by kernel_rfl) smOk0 (fuel := 60) (by kernel_rfl) (by kernel_rfl) (fun t => by kernel_rfl) (by kernel_rfl)
noncomputable def e72 : Ent := ⟨[], [], (.agg [(.int .i64 731215), (.int .i64 731580)]), [], 1001⟩
theorem e72_ok : EntAt Tryd.prog 72 e72 := entOk_run (by kernel_rfl) smOk0 (fuel := 60) (by kernel_rfl) (by kernel_rfl) (fun t => by kernel_rfl) (by kernel_rfl)
noncomputable def e73 : Ent := ⟨[], [], (.int .i64 731184), [], 1000⟩
theorem e73_ok : EntAt Tryd.prog 73 e73 := entOk_run (by kernel_rfl) smOk0 (fuel := 60) (by kernel_rfl) (by kernel_rfl) (fun t => by kernel_rfl) (by kernel_rfl)
noncomputable def e56 : Ent := ⟨[], [], (.int .i64 731946), [], 1000⟩
theorem e56_ok : EntAt Tryd.prog 56 e56 := entOk_run (by kernel_rfl) smOk0 (fuel := 60) (by kernel_rfl) (by kernel_rfl) (fun t => by kernel_rfl) (by kernel_rfl)
noncomputable def e77 : Ent := ⟨[], [], (.map 1000), [(1000, (.map [((.str 3 6516841), (.func 133 [])), ((.str 6 112568466435954), (.func 135 [])), ((.str 8 8319381538418553444), (.func 136 [])), ((.str 3 7630704), (.func 137 [])), ((.str 4 1918989413), (.func 138 [])), ((.str 6 109342978500980), (.func 139 [])), ((.str 5 482787554149), (.func 140 []))]))], 1001⟩
theorem e77_ok : EntAt Tryd.prog 77 e77 := entOk_run (by kernel_rfl) smOk0 (fuel := 60) (by kernel_rfl) (by kernel_rfl) (fun t => by kernel_rfl) (by kernel_rfl)
noncomputable def e102 : Ent := ⟨[], [], (.map 1000), [(1000, (.map [((.str 3 6516841), (.func 150 [])), ((.str 6 112568466435954), (.func 151 [])), ((.str 8 8319381538418553444), (.func 152 [])), ((.str 3 7630704), (.func 153 [])), ((.str 4 1918989413), (.func 154 [])), ((.str 6 109342978500980), (.func 155 [])), ((.str 5 482787554149), (.func 156 []))]))], 1001⟩
theorem e102_ok : EntAt Tryd.prog 102 e102 := entOk_run (by kernel_rfl) smOk0 (fuel := 60) (by kernel_rfl) (by kernel_rfl) (fun t => by kernel_rfl) (by kernel_rfl)
noncomputable def e105 : Ent := ⟨[], [], (.map 1000), [(1000, (.map [((.str 3 6516841), (.func 158 [])), ((.str 6 112568466435954), (.func 160 [])), ((.str 8 8319381538418553444), (.func 161 [])), ((.str 3 7630704), (.func 162 [])), ((.str 4 1918989413), (.func 163 [])), ((.str 6 109342978500980), (.func 164 [])), ((.str 5 482787554149), (.func 165 []))]))], 1001⟩
theorem e105_ok : EntAt Tryd.prog 105 e105 := entOk_run (by kernel_rfl) smOk0 (fuel := 60) (by kernel_rfl) (by kernel_rfl) (fun t => by kernel_rfl) (by kernel_rfl)
noncomputable def e123 : Ent := ⟨[], [], (.map 1000), [(1000, (.map [((.str 3 6516841), (.func 174 [])), ((.str 6 112568466435954), (.func 176 [])), ((.str 8 8319381538418553444), (.func 177 [])), ((.str 3 7630704), (.func 178 [])), ((.str 4 1918989413), (.func 179 [])), ((.str 6 109342978500980), (.func 180 [])), ((.str 5 482787554149), (.func 181 []))]))], 1001⟩
theorem e123_ok : EntAt Tryd.prog 123 e123 := entOk_run (by kernel_rfl) smOk0 (fuel := 60) (by kernel_rfl) (by kernel_rfl) (fun t => by kernel_rfl) (by kernel_rfl)
noncomputable def e36_true : Ent := ⟨[(8, [(.int .i64 10200), (.int .i64 40900), (.int .i64 92100), (.int .i64 18400), (.int .i64 71600), (.int .i64 153600)]), (9, [(.int .i64 950), (.int .i64 1500), (.int .i64 2800), (.int .i64 3500)])], [(.bool true)], (.slice 1003 0 4 4), [(1003, (.cells [(.int .i64 0), (.int .i64 1), (.int .i64 19), (.int .i64 200), (.int .i64 18400), (.int .i64 1), (.int .i64 3), (.int .i64 20), (.int .i64 71600), (.int .i64 1), (.int .i64 7), (.int .i64 25), (.int .i64 153600), (.int .i64 1), (.int .i64 7), (.int .i64 20)] 47 true))], 1033⟩
theorem e36_true_ok : EntAt Tryd.prog 36 e36_true := entOk_run (by kernel_rfl) smOk0 (fuel := 60) (by kernel_rfl) (by kernel_rfl) (fun t => by kernel_rfl) (by kernel_rfl)
noncomputable def e36_false : Ent := ⟨[(8, [(.int .i64 10200), (.int .i64 40900), (.int .i64 92100), (.int .i64 18400), (.int .i64 71600), (.int .i64 153600)]), (9, [(.int .i64 950), (.int .i64 1500), (.int .i64 2800), (.int .i64 3500)])], [(.bool false)], (.slice 1002 0 4 4), [(1002, (.cells [(.int .i64 0), (.int .i64 1), (.int .i64 19), (.int .i64 200), (.int .i64 10200), (.int .i64 1), (.int .i64 3), (.int .i64 20), (.int .i64 40900), (.int .i64 1), (.int .i64 7), (.int .i64 25), (.int .i64 92100), (.int .i64 1), (.int .i64 7), (.int .i64 20)] 47 true))], 1032⟩
theorem e36_false_ok : EntAt Tryd.prog 36 e36_false := entOk_run (by kernel_rfl) smOk0 (fuel := 60) (by kernel_rfl) (by kernel_rfl) (fun t => by kernel_rfl) (by kernel_rfl)
noncomputable def e37_true : Ent := ⟨[], [(.bool true)], (.sliceT 1094 0 4 4), [(1094, (.cells [(.int .i64 0), (.int .i64 1), (.int .i64 19), (.int .i64 200), (.int .i64 18400), (.int .i64 1), (.int .i64 3), (.int .i64 20), (.int .i64 71600), (.int .i64 1), (.int .i64 7), (.int .i64 25), (.int .i64 153600), (.int .i64 1), (.int .i64 7), (.int .i64 20)] 47 false))], 1095⟩
theorem e37_true_ok : EntAt Tryd.prog 37 e37_true := entOk_run (by kernel_rfl) smOk0 (fuel := 60) (by kernel_rfl) (by kernel_rfl) (fun t => by kernel_rfl) (by kernel_rfl)
noncomputable def e37_false : Ent := ⟨[], [(.bool false)], (.sliceT 1095 0 4 4), [(1095, (.cells [(.int .i64 0), (.int .i64 1), (.int .i64 19), (.int .i64 200), (.int .i64 10200), (.int .i64 1), (.int .i64 3), (.int .i64 20), (.int .i64 40900), (.int .i64 1), (.int .i64 7), (.int .i64 25), (.int .i64 92100), (.int .i64 1), (.int .i64 7), (.int .i64 20)] 47 false))], 1096⟩
theorem e37_false_ok : EntAt Tryd.prog 37 e37_false := entOk_run (by kernel_rfl) smOk0 (fuel := 60) (by kernel_rfl) (by kernel_rfl) (fun t => by kernel_rfl) (by kernel_rfl)
noncomputable def e60_true : Ent := ⟨[(9, [(.int .i64 950), (.int .i64 1500), (.int .i64 2800), (.int .i64 3500)]), (13, [(.int .i64 10500), (.int .i64 42300), (.int .i64 95400), (.int .i64 19000), (.int .i64 74100), (.int .i64 159100)])], [(.bool true)], (.slice 1063 0 4 4), [(1063, (.cells [(.int .i64 0), (.int .i64 1), (.int .i64 19), (.int .i64 200), (.int .i64 19000), (.int .i64 1), (.int .i64 3), (.int .i64 20), (.int .i64 74100), (.int .i64 1), (.int .i64 7), (.int .i64 25), (.int .i64 159100), (.int .i64 1), (.int .i64 99), (.int .i64 250)] 47 true))], 1093⟩
theorem e60_true_ok : EntAt Tryd.prog 60 e60_true := entOk_run (by kernel_rfl) smOk0 (fuel := 60) (by kernel_rfl) (by kernel_rfl) (fun t => by kernel_rfl) (by kernel_rfl)
noncomputable def e60_false : Ent := ⟨[(9, [(.int .i64 950), (.int .i64 1500), (.int .i64 2800), (.int .i64 3500)]), (13, [(.int .i64 10500), (.int .i64 42300), (.int .i64 95400), (.int .i64 19000), (.int .i64 74100), (.int .i64 159100)])], [(.bool false)], (.slice 1062 0 4 4), [(1062, (.cells [(.int .i64 0), (.int .i64 1), (.int .i64 19), (.int .i64 200), (.int .i64 10500), (.int .i64 1), (.int .i64 3), (.int .i64 20), (.int .i64 42300), (.int .i64 1), (.int .i64 7), (.int .i64 25), (.int .i64 95400), (.int .i64 1), (.int .i64 99), (.int .i64 250)] 47 true))], 1092⟩
theorem e60_false_ok : EntAt Tryd.prog 60 e60_false := entOk_run (by kernel_rfl) smOk0 (fuel := 60) (by kernel_rfl) (by kernel_rfl) (fun t => by kernel_rfl) (by kernel_rfl)
noncomputable def smSa : Sm := (.node none (.node none (.node none (.node (some [e21]) .leaf .leaf .leaf .leaf) (.node (some [e37_true, e37_false]) .leaf .leaf .leaf .leaf) .leaf .leaf) (.node none (.node (some [e25]) .leaf .leaf .leaf .leaf) (.node (some [e41]) (.node (some [e105]) .leaf .leaf .leaf .leaf) .leaf .leaf .leaf) .leaf (.node (some [e73]) .leaf .leaf .leaf .leaf)) (.node none .leaf .leaf .leaf (.node (some [e77]) .leaf .leaf .leaf .leaf)) (.node none .leaf (.node (some [e49]) .leaf .leaf .leaf .leaf) .leaf .leaf)) (.node none (.node none (.node (some [e22]) .leaf .leaf .leaf .leaf) (.node (some [e38]) (.node (some [e102]) .leaf .leaf .leaf .leaf) .leaf .leaf .leaf) .leaf .leaf) .leaf (.node none .leaf .leaf (.node (some [e62]) .leaf .leaf .leaf .leaf) .leaf) .leaf) (.node none (.node none .leaf (.node (some [e39]) .leaf .leaf .leaf .leaf) .leaf .leaf) (.node none .leaf .leaf (.node (some [e59]) (.node (some [e123]) .leaf .leaf .leaf .leaf) .leaf .leaf .leaf) .leaf) (.node none .leaf .leaf (.node (some [e63]) .leaf .leaf .leaf .leaf) .leaf) .leaf) (.node none (.node none (.node (some [e24]) .leaf .leaf .leaf .leaf) (.node (some [e40]) .leaf .leaf .leaf .leaf) (.node (some [e56]) .leaf .leaf .leaf .leaf) (.node (some [e72]) .leaf .leaf .leaf .leaf)) (.node none .leaf .leaf (.node (some [e60_true, e60_false]) .leaf .leaf .leaf .leaf) .leaf) (.node none .leaf (.node (some [e48]) .leaf .leaf .leaf .leaf) .leaf .leaf) (.node none (.node (some [e36_true, e36_false]) .leaf .leaf .leaf .leaf) .leaf .leaf .leaf)))
theorem smSaok : SmOk Tryd.prog smSa := by
  have h : smSa = smTr [(21, [e21]), (22, [e22]), (24, [e24]), (25, [e25]), (38, [e38]), (39, [e39]), (40, [e40]), (41, [e41]), (48, [e48]), (49, [e49]), (59, [e59]), (62, [e62]), (63, [e63]), (72, [e72]), (73, [e73]), (56, [e56]), (77, [e77]), (102, [e102]), (105, [e105]), (123, [e123]), (36, [e36_true, e36_false]), (37, [e37_true, e37_false]), (60, [e60_true, e60_false])] := by kernel_rfl
  rw [h]
  refine smOk_list (by kernel_rfl) ?_
  refine List.forall_mem_cons.2 ⟨List.forall_mem_cons.2 ⟨e21_ok, fun e h => nomatch h⟩, ?_⟩
  refine List.forall_mem_cons.2 ⟨List.forall_mem_cons.2 ⟨e22_ok, fun e h => nomatch h⟩, ?_⟩
  refine List.forall_mem_cons.2 ⟨List.forall_mem_cons.2 ⟨e24_ok, fun e h => nomatch h⟩, ?_⟩
  refine List.forall_mem_cons.2 ⟨List.forall_mem_cons.2 ⟨e25_ok, fun e h => nomatch h⟩, ?_⟩
  refine List.forall_mem_cons.2 ⟨List.forall_mem_cons.2 ⟨e38_ok, fun e h => nomatch h⟩, ?_⟩
  refine List.forall_mem_cons.2 ⟨List.forall_mem_cons.2 ⟨e39_ok, fun e h => nomatch h⟩, ?_⟩
  refine List.forall_mem_cons.2 ⟨List.forall_mem_cons.2 ⟨e40_ok, fun e h => nomatch h⟩, ?_⟩
  refine List.forall_mem_cons.2 ⟨List.forall_mem_cons.2 ⟨e41_ok, fun e h => nomatch h⟩, ?_⟩
  refine List.forall_mem_cons.2 ⟨List.forall_mem_cons.2 ⟨e48_ok, fun e h => nomatch h⟩, ?_⟩
  refine List.forall_mem_cons.2 ⟨List.forall_mem_cons.2 ⟨e49_ok, fun e h => nomatch h⟩, ?_⟩
  refine List.forall_mem_cons.2 ⟨List.forall_mem_cons.2 ⟨e59_ok, fun e h => nomatch h⟩, ?_⟩
  refine List.forall_mem_cons.2 ⟨List.forall_mem_cons.2 ⟨e62_ok, fun e h => nomatch h⟩, ?_⟩
  refine List.forall_mem_cons.2 ⟨List.forall_mem_cons.2 ⟨e63_ok, fun e h => nomatch h⟩, ?_⟩
  refine List.forall_mem_cons.2 ⟨List.forall_mem_cons.2 ⟨e72_ok, fun e h => nomatch h⟩, ?_⟩
  refine List.forall_mem_cons.2 ⟨List.forall_mem_cons.2 ⟨e73_ok, fun e h => nomatch h⟩, ?_⟩
  refine List.forall_mem_cons.2 ⟨List.forall_mem_cons.2 ⟨e56_ok, fun e h => nomatch h⟩, ?_⟩
  refine List.forall_mem_cons.2 ⟨List.forall_mem_cons.2 ⟨e77_ok, fun e h => nomatch h⟩, ?_⟩
  refine List.forall_mem_cons.2 ⟨List.forall_mem_cons.2 ⟨e102_ok, fun e h => nomatch h⟩, ?_⟩
  refine List.forall_mem_cons.2 ⟨List.forall_mem_cons.2 ⟨e105_ok, fun e h => nomatch h⟩, ?_⟩
  refine List.forall_mem_cons.2 ⟨List.forall_mem_cons.2 ⟨e123_ok, fun e h => nomatch h⟩, ?_⟩
  refine List.forall_mem_cons.2 ⟨List.forall_mem_cons.2 ⟨e36_true_ok, List.forall_mem_cons.2 ⟨e36_false_ok, fun e h => nomatch h⟩⟩, ?_⟩
  refine List.forall_mem_cons.2 ⟨List.forall_mem_cons.2 ⟨e37_true_ok, List.forall_mem_cons.2 ⟨e37_false_ok, fun e h => nomatch h⟩⟩, ?_⟩
  refine List.forall_mem_cons.2 ⟨List.forall_mem_cons.2 ⟨e60_true_ok, List.forall_mem_cons.2 ⟨e60_false_ok, fun e h => nomatch h⟩⟩, ?_⟩
  exact fun x h => nomatch h
end Go.Proofs.YtmlkgejkjhlbfaaDoor
