/- What is known beforehand of functions of the program, each entry from a run of the executor. -/
import Derived.Test.YtlnfollgpbcafaaGreatDoorXq1
import Derived.Test.YtlnfollgpbcafaaGreatDoorRows
set_option maxRecDepth 1000000
namespace Go.Proofs.YtlnfollgpbcafaaGreatDoor
open Go Go.Proofs.YtlnfollgpbcafaaGreatDoor.Xq
noncomputable def xsT : Tr (List AV → Option AV) := (.node none (.node none (.node none .leaf (.node none .leaf .leaf (.node (some idxX) .leaf .leaf .leaf .leaf) .leaf) .leaf .leaf) .leaf .leaf .leaf) .leaf .leaf (.node none .leaf (.node none .leaf .leaf .leaf (.node none .leaf (.node (some cntX) .leaf .leaf .leaf .leaf) .leaf .leaf)) .leaf .leaf))
noncomputable def smX : Sm := ⟨.leaf, xsT, .leaf⟩
theorem xsT_eq : xsT = trL [(204, cntX), (229, idxX)] := by kernel_rfl
theorem smXok : SmOk Tryz.prog smX := by
  have h : smX = ⟨trL [], trL [(204, cntX), (229, idxX)], trL []⟩ := by unfold smX; rw [xsT_eq]; rfl
  rw [h]
  refine smOk_list (by kernel_rfl) (fun x h => nomatch h) ?_ (fun x h => nomatch h)
  refine List.forall_mem_cons.2 ⟨ext_count Tryz.func204 (by kernel_rfl) (by kernel_rfl) (by kernel_rfl) (by kernel_rfl), ?_⟩
  refine List.forall_mem_cons.2 ⟨ext_index Tryz.func229 (by kernel_rfl) (by kernel_rfl) (by kernel_rfl) (by kernel_rfl), ?_⟩
  exact fun x h => nomatch h
noncomputable def e23 : Ent := ⟨[], [], (.slice 1000 0 7 7), [(1000, (.cells [(.str 3 6516841), (.str 6 112568466435954), (.str 8 8319381538418553444), (.str 3 7630704), (.str 4 1918989413), (.str 6 109342978500980), (.str 5 482787554149)] 9 true))], 1001⟩
theorem e23_ok : EntAt Tryz.prog 23 e23 := entOk_run (by kernel_rfl) smXok (fuel := 60) (by kernel_rfl) (by kernel_rfl) (fun t => by kernel_rfl) (by kernel_rfl)
noncomputable def e34 : Ent := ⟨[(15, [(.int .i64 1061), (.int .i64 1024)])], [], (.agg [(.int .i64 1061), (.int .i64 1024)]), [], 1001⟩
theorem e34_ok : EntAt Tryz.prog 34 e34 := entOk_run (by kernel_rfl) smXok (fuel := 60) (by kernel_rfl) (by kernel_rfl) (fun t => by kernel_rfl) (by kernel_rfl)
noncomputable def e35 : Ent := ⟨[], [], (.agg [(.int .i64 731215), (.int .i64 731580)]), [], 1001⟩
theorem e35_ok : EntAt Tryz.prog 35 e35 := entOk_run (by kernel_rfl) smXok (fuel := 60) (by kernel_rfl) (by kernel_rfl) (fun t => by kernel_rfl) (by kernel_rfl)
noncomputable def e36 : Ent := ⟨[], [], (.agg [(.int .i64 730850), (.int .i64 731215)]), [], 1001⟩
theorem e36_ok : EntAt Tryz.prog 36 e36 := entOk_run (by kernel_rfl) smXok (fuel := 60) (by kernel_rfl) (by kernel_rfl) (fun t => by kernel_rfl) (by kernel_rfl)
noncomputable def e95 : Ent := ⟨[], [], (.agg [(.int .i64 730485), (.int .i64 730850)]), [], 1001⟩
theorem e95_ok : EntAt Tryz.prog 95 e95 := entOk_run (by kernel_rfl) smXok (fuel := 60) (by kernel_rfl) (by kernel_rfl) (fun t => by kernel_rfl) (by kernel_rfl)
noncomputable def e79 : Ent := ⟨[], [], (.map 1000), [(1000, (.map [((.str 3 6516841), (.func 128 [])), ((.str 6 112568466435954), (.func 130 [])), ((.str 8 8319381538418553444), (.func 131 [])), ((.str 3 7630704), (.func 132 [])), ((.str 4 1918989413), (.func 133 [])), ((.str 6 109342978500980), (.func 134 [])), ((.str 5 482787554149), (.func 135 []))]))], 1001⟩
theorem e79_ok : EntAt Tryz.prog 79 e79 := entOk_run (by kernel_rfl) smXok (fuel := 60) (by kernel_rfl) (by kernel_rfl) (fun t => by kernel_rfl) (by kernel_rfl)
noncomputable def e101 : Ent := ⟨[], [], (.map 1000), [(1000, (.map [((.str 3 6516841), (.func 145 [])), ((.str 6 112568466435954), (.func 147 [])), ((.str 8 8319381538418553444), (.func 148 [])), ((.str 3 7630704), (.func 149 [])), ((.str 4 1918989413), (.func 150 [])), ((.str 6 109342978500980), (.func 151 [])), ((.str 5 482787554149), (.func 152 []))]))], 1001⟩
theorem e101_ok : EntAt Tryz.prog 101 e101 := entOk_run (by kernel_rfl) smXok (fuel := 60) (by kernel_rfl) (by kernel_rfl) (fun t => by kernel_rfl) (by kernel_rfl)
noncomputable def e106 : Ent := ⟨[], [], (.map 1000), [(1000, (.map [((.str 3 6516841), (.func 155 [])), ((.str 6 112568466435954), (.func 157 [])), ((.str 8 8319381538418553444), (.func 158 [])), ((.str 3 7630704), (.func 159 [])), ((.str 4 1918989413), (.func 160 [])), ((.str 6 109342978500980), (.func 161 [])), ((.str 5 482787554149), (.func 162 []))]))], 1001⟩
theorem e106_ok : EntAt Tryz.prog 106 e106 := entOk_run (by kernel_rfl) smXok (fuel := 60) (by kernel_rfl) (by kernel_rfl) (fun t => by kernel_rfl) (by kernel_rfl)
noncomputable def e107 : Ent := ⟨[], [], (.map 1000), [(1000, (.map [((.str 3 6516841), (.func 163 [])), ((.str 6 112568466435954), (.func 164 [])), ((.str 8 8319381538418553444), (.func 165 [])), ((.str 3 7630704), (.func 166 [])), ((.str 4 1918989413), (.func 167 [])), ((.str 6 109342978500980), (.func 168 [])), ((.str 5 482787554149), (.func 169 []))]))], 1001⟩
theorem e107_ok : EntAt Tryz.prog 107 e107 := entOk_run (by kernel_rfl) smXok (fuel := 60) (by kernel_rfl) (by kernel_rfl) (fun t => by kernel_rfl) (by kernel_rfl)
noncomputable def e97 : Ent := ⟨[], [], (.agg [(.int .i64 500), (.int .i64 900)]), [], 1005⟩
theorem e97_ok : EntAt Tryz.prog 97 e97 := entOk_run (by kernel_rfl) smXok (fuel := 60) (by kernel_rfl) (by kernel_rfl) (fun t => by kernel_rfl) (by kernel_rfl)
noncomputable def e81 : Ent := ⟨[(9, [(.int .i64 550), (.int .i64 975)])], [], (.agg [(.int .i64 600), (.int .i64 1050)]), [], 1036⟩
theorem e81_ok : EntAt Tryz.prog 81 e81 := entOk_run (by kernel_rfl) smXok (fuel := 60) (by kernel_rfl) (by kernel_rfl) (fun t => by kernel_rfl) (by kernel_rfl)
noncomputable def e40_true : Ent := ⟨[(16, [(.int .i64 10500), (.int .i64 42300), (.int .i64 95400), (.int .i64 19000), (.int .i64 74100), (.int .i64 159100)]), (28, [(.int .i64 950), (.int .i64 1500), (.int .i64 2800), (.int .i64 3500)])], [(.bool true)], (.slice 1063 0 4 4), [(1063, (.cells [(.int .i64 0), (.int .i64 1), (.int .i64 19), (.int .i64 200), (.int .i64 19000), (.int .i64 1), (.int .i64 3), (.int .i64 20), (.int .i64 74100), (.int .i64 1), (.int .i64 7), (.int .i64 25), (.int .i64 159100), (.int .i64 1), (.int .i64 99), (.int .i64 250)] 53 true))], 1093⟩
theorem e40_true_ok : EntAt Tryz.prog 40 e40_true := entOk_run (by kernel_rfl) smXok (fuel := 60) (by kernel_rfl) (by kernel_rfl) (fun t => by kernel_rfl) (by kernel_rfl)
noncomputable def e40_false : Ent := ⟨[(16, [(.int .i64 10500), (.int .i64 42300), (.int .i64 95400), (.int .i64 19000), (.int .i64 74100), (.int .i64 159100)]), (28, [(.int .i64 950), (.int .i64 1500), (.int .i64 2800), (.int .i64 3500)])], [(.bool false)], (.slice 1062 0 4 4), [(1062, (.cells [(.int .i64 0), (.int .i64 1), (.int .i64 19), (.int .i64 200), (.int .i64 10500), (.int .i64 1), (.int .i64 3), (.int .i64 20), (.int .i64 42300), (.int .i64 1), (.int .i64 7), (.int .i64 25), (.int .i64 95400), (.int .i64 1), (.int .i64 99), (.int .i64 250)] 53 true))], 1092⟩
theorem e40_false_ok : EntAt Tryz.prog 40 e40_false := entOk_run (by kernel_rfl) smXok (fuel := 60) (by kernel_rfl) (by kernel_rfl) (fun t => by kernel_rfl) (by kernel_rfl)
noncomputable def e99_true : Ent := ⟨[(27, [(.int .i64 10200), (.int .i64 40900), (.int .i64 92100), (.int .i64 18400), (.int .i64 71600), (.int .i64 153600)]), (28, [(.int .i64 950), (.int .i64 1500), (.int .i64 2800), (.int .i64 3500)])], [(.bool true)], (.slice 1003 0 4 4), [(1003, (.cells [(.int .i64 0), (.int .i64 1), (.int .i64 19), (.int .i64 200), (.int .i64 18400), (.int .i64 1), (.int .i64 3), (.int .i64 20), (.int .i64 71600), (.int .i64 1), (.int .i64 7), (.int .i64 25), (.int .i64 153600), (.int .i64 1), (.int .i64 7), (.int .i64 20)] 53 true))], 1033⟩
theorem e99_true_ok : EntAt Tryz.prog 99 e99_true := entOk_run (by kernel_rfl) smXok (fuel := 60) (by kernel_rfl) (by kernel_rfl) (fun t => by kernel_rfl) (by kernel_rfl)
noncomputable def e99_false : Ent := ⟨[(27, [(.int .i64 10200), (.int .i64 40900), (.int .i64 92100), (.int .i64 18400), (.int .i64 71600), (.int .i64 153600)]), (28, [(.int .i64 950), (.int .i64 1500), (.int .i64 2800), (.int .i64 3500)])], [(.bool false)], (.slice 1002 0 4 4), [(1002, (.cells [(.int .i64 0), (.int .i64 1), (.int .i64 19), (.int .i64 200), (.int .i64 10200), (.int .i64 1), (.int .i64 3), (.int .i64 20), (.int .i64 40900), (.int .i64 1), (.int .i64 7), (.int .i64 25), (.int .i64 92100), (.int .i64 1), (.int .i64 7), (.int .i64 20)] 53 true))], 1032⟩
theorem e99_false_ok : EntAt Tryz.prog 99 e99_false := entOk_run (by kernel_rfl) smXok (fuel := 60) (by kernel_rfl) (by kernel_rfl) (fun t => by kernel_rfl) (by kernel_rfl)
noncomputable def e98_true : Ent := ⟨[(25, [(.int .i64 10000), (.int .i64 40000), (.int .i64 90000), (.int .i64 18000), (.int .i64 70000), (.int .i64 150000)]), (26, [(.int .i64 1000), (.int .i64 1500), (.int .i64 2800), (.int .i64 3500)])], [(.bool true)], (.sliceT 1027 0 4 4), [(1027, (.cells [(.int .i64 0), (.int .i64 1), (.int .i64 1), (.int .i64 10), (.int .i64 18000), (.int .i64 1), (.int .i64 3), (.int .i64 20), (.int .i64 70000), (.int .i64 1), (.int .i64 7), (.int .i64 25), (.int .i64 150000), (.int .i64 1), (.int .i64 7), (.int .i64 20)] 53 false))], 1028⟩
theorem e98_true_ok : EntAt Tryz.prog 98 e98_true := entOk_run (by kernel_rfl) smXok (fuel := 60) (by kernel_rfl) (by kernel_rfl) (fun t => by kernel_rfl) (by kernel_rfl)
noncomputable def e98_false : Ent := ⟨[(25, [(.int .i64 10000), (.int .i64 40000), (.int .i64 90000), (.int .i64 18000), (.int .i64 70000), (.int .i64 150000)]), (26, [(.int .i64 1000), (.int .i64 1500), (.int .i64 2800), (.int .i64 3500)])], [(.bool false)], (.sliceT 1026 0 4 4), [(1026, (.cells [(.int .i64 0), (.int .i64 1), (.int .i64 1), (.int .i64 10), (.int .i64 10000), (.int .i64 1), (.int .i64 3), (.int .i64 20), (.int .i64 40000), (.int .i64 1), (.int .i64 7), (.int .i64 25), (.int .i64 90000), (.int .i64 1), (.int .i64 7), (.int .i64 20)] 53 false))], 1027⟩
theorem e98_false_ok : EntAt Tryz.prog 98 e98_false := entOk_run (by kernel_rfl) smXok (fuel := 60) (by kernel_rfl) (by kernel_rfl) (fun t => by kernel_rfl) (by kernel_rfl)
noncomputable def e32 : Ent := ⟨[], [], (.int .i64 731946), [], 1000⟩
theorem e32_ok : EntAt Tryz.prog 32 e32 := entOk_run (by kernel_rfl) smXok (fuel := 60) (by kernel_rfl) (by kernel_rfl) (fun t => by kernel_rfl) (by kernel_rfl)
noncomputable def e125 : Ent := ⟨[], [], (.slice 1005 0 5 5), [(1005, (.cells [(.str 14 2458305804768679542627972199967845), (.str 0 0), (.int .i64 730850), (.int .i64 731032), (.int .i64 731549), (.int .i64 0), (.str 14 2458226553575165206360669087558757), (.int .i64 0), (.int .i64 0), (.int .i64 0), .nils, (.str 0 0), (.int .i64 0), (.int .i64 0), (.int .i64 0), (.str 13 9602757049877654463351962037876), (.str 0 0), (.int .i64 730850), (.int .i64 731215), (.int .i64 731549), (.int .i64 0), (.str 13 9602447474902989087307809255028), (.int .i64 0), (.int .i64 0), (.int .i64 0), .nils, (.str 0 0), (.int .i64 0), (.int .i64 0), (.int .i64 0), (.str 14 2458305804768679542628023807533432), (.str 0 0), (.int .i64 731762), (.int .i64 731946), (.int .i64 731549), (.int .i64 0), (.str 14 2458226565702404816209216181395832), (.int .i64 0), (.int .i64 0), (.int .i64 0), .nils, (.str 0 0), (.int .i64 0), (.int .i64 0), (.int .i64 0), (.str 11 146526444242517920888157541), (.str 0 0), (.int .i64 731945), (.int .i64 731946), (.int .i64 731549), (.int .i64 0), (.str 11 146521721226120282184643941), (.int .i64 0), (.int .i64 0), (.int .i64 0), .nils, (.str 0 0), (.int .i64 0), (.int .i64 0), (.int .i64 0), (.str 13 9602757035544534318079640432244), (.str 0 0), (.int .i64 730950), (.int .i64 731215), (.int .i64 731550), (.int .i64 0), (.str 13 9602757049877654463351962037876), (.int .i64 0), (.int .i64 0), (.int .i64 0), .nils, (.str 0 0), (.int .i64 0), (.int .i64 0), (.int .i64 0)] 49 true))], 1006⟩
theorem e125_ok : EntAt Tryz.prog 125 e125 := entOk_run (by kernel_rfl) smXok (fuel := 60) (by kernel_rfl) (by kernel_rfl) (fun t => by kernel_rfl) (by kernel_rfl)
noncomputable def smSa : Sm := ⟨(.node none (.node none (.node none .leaf (.node none (.node (some [e101]) .leaf .leaf .leaf .leaf) .leaf .leaf .leaf) .leaf .leaf) .leaf (.node none .leaf .leaf (.node none (.node (some [e125]) .leaf .leaf .leaf .leaf) .leaf .leaf .leaf) .leaf) (.node none (.node none (.node (some [e97]) .leaf .leaf .leaf .leaf) .leaf .leaf .leaf) .leaf .leaf (.node (some [e81]) .leaf .leaf .leaf .leaf))) (.node none .leaf (.node none .leaf (.node none (.node (some [e106]) .leaf .leaf .leaf .leaf) .leaf .leaf .leaf) .leaf .leaf) .leaf (.node none (.node (some [e34]) (.node (some [e98_true, e98_false]) .leaf .leaf .leaf .leaf) .leaf .leaf .leaf) .leaf .leaf .leaf)) (.node none (.node none (.node (some [e23]) .leaf .leaf .leaf .leaf) .leaf .leaf .leaf) (.node none .leaf (.node none (.node (some [e107]) .leaf .leaf .leaf .leaf) .leaf .leaf .leaf) .leaf .leaf) (.node none (.node none (.node (some [e95]) .leaf .leaf .leaf .leaf) .leaf .leaf .leaf) .leaf .leaf (.node (some [e79]) .leaf .leaf .leaf .leaf)) (.node none (.node (some [e35]) (.node (some [e99_true, e99_false]) .leaf .leaf .leaf .leaf) .leaf .leaf .leaf) .leaf .leaf .leaf)) (.node none (.node none .leaf (.node (some [e40_true, e40_false]) .leaf .leaf .leaf .leaf) .leaf .leaf) .leaf (.node none (.node (some [e32]) .leaf .leaf .leaf .leaf) .leaf .leaf .leaf) (.node none (.node (some [e36]) .leaf .leaf .leaf .leaf) .leaf .leaf .leaf))), xsT, .leaf⟩
theorem smSaok : SmOk Tryz.prog smSa := by
  have h : smSa = ⟨trL [(23, [e23]), (34, [e34]), (35, [e35]), (36, [e36]), (95, [e95]), (79, [e79]), (101, [e101]), (106, [e106]), (107, [e107]), (97, [e97]), (81, [e81]), (40, [e40_true, e40_false]), (99, [e99_true, e99_false]), (98, [e98_true, e98_false]), (32, [e32]), (125, [e125])], xsT, trL []⟩ := by kernel_rfl
  rw [h, xsT_eq]
  refine smOk_list (by kernel_rfl) ?_ ?_ ?_
  rotate_left
  · refine List.forall_mem_cons.2 ⟨ext_count Tryz.func204 (by kernel_rfl) (by kernel_rfl) (by kernel_rfl) (by kernel_rfl), ?_⟩
    refine List.forall_mem_cons.2 ⟨ext_index Tryz.func229 (by kernel_rfl) (by kernel_rfl) (by kernel_rfl) (by kernel_rfl), ?_⟩
    exact fun x h => nomatch h
  · exact fun x h => nomatch h
  refine List.forall_mem_cons.2 ⟨List.forall_mem_cons.2 ⟨e23_ok, fun e h => nomatch h⟩, ?_⟩
  refine List.forall_mem_cons.2 ⟨List.forall_mem_cons.2 ⟨e34_ok, fun e h => nomatch h⟩, ?_⟩
  refine List.forall_mem_cons.2 ⟨List.forall_mem_cons.2 ⟨e35_ok, fun e h => nomatch h⟩, ?_⟩
  refine List.forall_mem_cons.2 ⟨List.forall_mem_cons.2 ⟨e36_ok, fun e h => nomatch h⟩, ?_⟩
  refine List.forall_mem_cons.2 ⟨List.forall_mem_cons.2 ⟨e95_ok, fun e h => nomatch h⟩, ?_⟩
  refine List.forall_mem_cons.2 ⟨List.forall_mem_cons.2 ⟨e79_ok, fun e h => nomatch h⟩, ?_⟩
  refine List.forall_mem_cons.2 ⟨List.forall_mem_cons.2 ⟨e101_ok, fun e h => nomatch h⟩, ?_⟩
  refine List.forall_mem_cons.2 ⟨List.forall_mem_cons.2 ⟨e106_ok, fun e h => nomatch h⟩, ?_⟩
  refine List.forall_mem_cons.2 ⟨List.forall_mem_cons.2 ⟨e107_ok, fun e h => nomatch h⟩, ?_⟩
  refine List.forall_mem_cons.2 ⟨List.forall_mem_cons.2 ⟨e97_ok, fun e h => nomatch h⟩, ?_⟩
  refine List.forall_mem_cons.2 ⟨List.forall_mem_cons.2 ⟨e81_ok, fun e h => nomatch h⟩, ?_⟩
  refine List.forall_mem_cons.2 ⟨List.forall_mem_cons.2 ⟨e40_true_ok, List.forall_mem_cons.2 ⟨e40_false_ok, fun e h => nomatch h⟩⟩, ?_⟩
  refine List.forall_mem_cons.2 ⟨List.forall_mem_cons.2 ⟨e99_true_ok, List.forall_mem_cons.2 ⟨e99_false_ok, fun e h => nomatch h⟩⟩, ?_⟩
  refine List.forall_mem_cons.2 ⟨List.forall_mem_cons.2 ⟨e98_true_ok, List.forall_mem_cons.2 ⟨e98_false_ok, fun e h => nomatch h⟩⟩, ?_⟩
  refine List.forall_mem_cons.2 ⟨List.forall_mem_cons.2 ⟨e32_ok, fun e h => nomatch h⟩, ?_⟩
  refine List.forall_mem_cons.2 ⟨List.forall_mem_cons.2 ⟨e125_ok, fun e h => nomatch h⟩, ?_⟩
  exact fun x h => nomatch h
end Go.Proofs.YtlnfollgpbcafaaGreatDoor
