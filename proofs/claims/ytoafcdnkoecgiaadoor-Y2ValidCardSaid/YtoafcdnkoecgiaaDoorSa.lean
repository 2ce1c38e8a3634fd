/- What is known beforehand of functions of the program, each entry from a run of the executor. -/
import Derived.Test.YtoafcdnkoecgiaaDoorXq1
import Derived.Test.YtoafcdnkoecgiaaDoorRows
set_option maxRecDepth 1000000
namespace Go.Proofs.YtoafcdnkoecgiaaDoor
open Go Go.Proofs.YtoafcdnkoecgiaaDoor.Xq
noncomputable def xsT : Tr (List AV → Option AV) := (.node none .leaf .leaf (.node none .leaf .leaf .leaf (.node none .leaf .leaf (.node none .leaf (.node (some idxX) .leaf .leaf .leaf .leaf) .leaf .leaf) .leaf)) (.node none .leaf (.node none .leaf .leaf (.node none .leaf (.node (some cntX) .leaf .leaf .leaf .leaf) .leaf .leaf) .leaf) .leaf .leaf))
noncomputable def smX : Sm := ⟨.leaf, xsT⟩
theorem xsT_eq : xsT = trL [(188, cntX), (195, idxX)] := by kernel_rfl
theorem smXok : SmOk Tryd.prog smX := by
  have h : smX = ⟨trL [], trL [(188, cntX), (195, idxX)]⟩ := by unfold smX; rw [xsT_eq]; rfl
  rw [h]
  refine smOk_list (by kernel_rfl) (fun x h => nomatch h) ?_
  refine List.forall_mem_cons.2 ⟨ext_count Tryd.func188 (by kernel_rfl) (by kernel_rfl) (by kernel_rfl) (by kernel_rfl), ?_⟩
  refine List.forall_mem_cons.2 ⟨ext_index Tryd.func195 (by kernel_rfl) (by kernel_rfl) (by kernel_rfl) (by kernel_rfl), ?_⟩
  exact fun x h => nomatch h
noncomputable def e20 : Ent := ⟨[], [], (.slice 1000 0 7 7), [(1000, (.cells [(.str 3 6516841), (.str 6 112568466435954), (.str 8 8319381538418553444), (.str 3 7630704), (.str 4 1918989413), (.str 6 109342978500980), (.str 5 482787554149)] 9 true))], 1001⟩
theorem e20_ok : EntAt Tryd.prog 20 e20 := entOk_run (by kernel_rfl) smXok (fuel := 60) (by kernel_rfl) (by kernel_rfl) (fun t => by kernel_rfl) (by kernel_rfl)
noncomputable def e29 : Ent := ⟨[(14, [(.int .i64 1058), (.int .i64 1061)])], [], (.agg [(.int .i64 1058), (.int .i64 1061)]), [], 1001⟩
theorem e29_ok : EntAt Tryd.prog 29 e29 := entOk_run (by kernel_rfl) smXok (fuel := 60) (by kernel_rfl) (by kernel_rfl) (fun t => by kernel_rfl) (by kernel_rfl)
noncomputable def e37 : Ent := ⟨[(15, [(.int .i64 1061), (.int .i64 1024)])], [], (.agg [(.int .i64 1061), (.int .i64 1024)]), [], 1001⟩
theorem e37_ok : EntAt Tryd.prog 37 e37 := entOk_run (by kernel_rfl) smXok (fuel := 60) (by kernel_rfl) (by kernel_rfl) (fun t => by kernel_rfl) (by kernel_rfl)
noncomputable def e45 : Ent := ⟨[], [], (.agg [(.int .i64 731215), (.int .i64 731580)]), [], 1001⟩
theorem e45_ok : EntAt Tryd.prog 45 e45 := entOk_run (by kernel_rfl) smXok (fuel := 60) (by kernel_rfl) (by kernel_rfl) (fun t => by kernel_rfl) (by kernel_rfl)
noncomputable def e46 : Ent := ⟨[], [], (.agg [(.int .i64 730850), (.int .i64 731215)]), [], 1001⟩
theorem e46_ok : EntAt Tryd.prog 46 e46 := entOk_run (by kernel_rfl) smXok (fuel := 60) (by kernel_rfl) (by kernel_rfl) (fun t => by kernel_rfl) (by kernel_rfl)
noncomputable def e58 : Ent := ⟨[], [], (.int .i64 731946), [], 1000⟩
theorem e58_ok : EntAt Tryd.prog 58 e58 := entOk_run (by kernel_rfl) smXok (fuel := 60) (by kernel_rfl) (by kernel_rfl) (fun t => by kernel_rfl) (by kernel_rfl)
noncomputable def e62 : Ent := ⟨[], [], (.slice 1000 0 7 7), [(1000, (.cells [(.str 3 6516841), (.str 6 112568466435954), (.str 8 8319381538418553444), (.str 3 7630704), (.str 4 1918989413), (.str 6 109342978500980), (.str 5 482787554149)] 9 true))], 1001⟩
theorem e62_ok : EntAt Tryd.prog 62 e62 := entOk_run (by kernel_rfl) smXok (fuel := 60) (by kernel_rfl) (by kernel_rfl) (fun t => by kernel_rfl) (by kernel_rfl)
noncomputable def e64 : Ent := ⟨[], [], (.map 1000), [(1000, (.map [((.str 3 6516841), (.func 104 [])), ((.str 6 112568466435954), (.func 105 [])), ((.str 8 8319381538418553444), (.func 106 [])), ((.str 3 7630704), (.func 107 [])), ((.str 4 1918989413), (.func 108 [])), ((.str 6 109342978500980), (.func 109 [])), ((.str 5 482787554149), (.func 110 []))]))], 1001⟩
theorem e64_ok : EntAt Tryd.prog 64 e64 := entOk_run (by kernel_rfl) smXok (fuel := 60) (by kernel_rfl) (by kernel_rfl) (fun t => by kernel_rfl) (by kernel_rfl)
noncomputable def e84 : Ent := ⟨[], [], (.map 1000), [(1000, (.map [((.str 3 6516841), (.func 124 [])), ((.str 6 112568466435954), (.func 126 [])), ((.str 8 8319381538418553444), (.func 127 [])), ((.str 3 7630704), (.func 128 [])), ((.str 4 1918989413), (.func 129 [])), ((.str 6 109342978500980), (.func 130 [])), ((.str 5 482787554149), (.func 131 []))]))], 1001⟩
theorem e84_ok : EntAt Tryd.prog 84 e84 := entOk_run (by kernel_rfl) smXok (fuel := 60) (by kernel_rfl) (by kernel_rfl) (fun t => by kernel_rfl) (by kernel_rfl)
noncomputable def e85 : Ent := ⟨[], [], (.map 1000), [(1000, (.map [((.str 3 6516841), (.func 132 [])), ((.str 6 112568466435954), (.func 133 [])), ((.str 8 8319381538418553444), (.func 134 [])), ((.str 3 7630704), (.func 135 [])), ((.str 4 1918989413), (.func 136 [])), ((.str 6 109342978500980), (.func 137 [])), ((.str 5 482787554149), (.func 138 []))]))], 1001⟩
theorem e85_ok : EntAt Tryd.prog 85 e85 := entOk_run (by kernel_rfl) smXok (fuel := 60) (by kernel_rfl) (by kernel_rfl) (fun t => by kernel_rfl) (by kernel_rfl)
noncomputable def e92 : Ent := ⟨[], [], (.map 1000), [(1000, (.map [((.str 3 6516841), (.func 145 [])), ((.str 6 112568466435954), (.func 147 [])), ((.str 8 8319381538418553444), (.func 148 [])), ((.str 3 7630704), (.func 149 [])), ((.str 4 1918989413), (.func 150 [])), ((.str 6 109342978500980), (.func 151 [])), ((.str 5 482787554149), (.func 152 []))]))], 1001⟩
theorem e92_ok : EntAt Tryd.prog 92 e92 := entOk_run (by kernel_rfl) smXok (fuel := 60) (by kernel_rfl) (by kernel_rfl) (fun t => by kernel_rfl) (by kernel_rfl)
noncomputable def e50_true : Ent := ⟨[(26, [(.int .i64 950), (.int .i64 1500), (.int .i64 2800), (.int .i64 3500)]), (21, [(.int .i64 10500), (.int .i64 42300), (.int .i64 95400), (.int .i64 19000), (.int .i64 74100), (.int .i64 159100)])], [(.bool true)], (.slice 1063 0 4 4), [(1063, (.cells [(.int .i64 0), (.int .i64 1), (.int .i64 19), (.int .i64 200), (.int .i64 19000), (.int .i64 1), (.int .i64 3), (.int .i64 20), (.int .i64 74100), (.int .i64 1), (.int .i64 7), (.int .i64 25), (.int .i64 159100), (.int .i64 1), (.int .i64 99), (.int .i64 250)] 108 true))], 1093⟩
theorem e50_true_ok : EntAt Tryd.prog 50 e50_true := entOk_run (by kernel_rfl) smXok (fuel := 60) (by kernel_rfl) (by kernel_rfl) (fun t => by kernel_rfl) (by kernel_rfl)
noncomputable def e50_false : Ent := ⟨[(26, [(.int .i64 950), (.int .i64 1500), (.int .i64 2800), (.int .i64 3500)]), (21, [(.int .i64 10500), (.int .i64 42300), (.int .i64 95400), (.int .i64 19000), (.int .i64 74100), (.int .i64 159100)])], [(.bool false)], (.slice 1062 0 4 4), [(1062, (.cells [(.int .i64 0), (.int .i64 1), (.int .i64 19), (.int .i64 200), (.int .i64 10500), (.int .i64 1), (.int .i64 3), (.int .i64 20), (.int .i64 42300), (.int .i64 1), (.int .i64 7), (.int .i64 25), (.int .i64 95400), (.int .i64 1), (.int .i64 99), (.int .i64 250)] 108 true))], 1092⟩
theorem e50_false_ok : EntAt Tryd.prog 50 e50_false := entOk_run (by kernel_rfl) smXok (fuel := 60) (by kernel_rfl) (by kernel_rfl) (fun t => by kernel_rfl) (by kernel_rfl)
noncomputable def e115_true : Ent := ⟨[(25, [(.int .i64 10200), (.int .i64 40900), (.int .i64 92100), (.int .i64 18400), (.int .i64 71600), (.int .i64 153600)]), (26, [(.int .i64 950), (.int .i64 1500), (.int .i64 2800), (.int .i64 3500)])], [(.bool true)], (.slice 1003 0 4 4), [(1003, (.cells [(.int .i64 0), (.int .i64 1), (.int .i64 19), (.int .i64 200), (.int .i64 18400), (.int .i64 1), (.int .i64 3), (.int .i64 20), (.int .i64 71600), (.int .i64 1), (.int .i64 7), (.int .i64 25), (.int .i64 153600), (.int .i64 1), (.int .i64 7), (.int .i64 20)] 108 true))], 1033⟩
theorem e115_true_ok : EntAt Tryd.prog 115 e115_true := entOk_run (by kernel_rfl) smXok (fuel := 60) (by kernel_rfl) (by kernel_rfl) (fun t => by kernel_rfl) (by kernel_rfl)
noncomputable def e115_false : Ent := ⟨[(25, [(.int .i64 10200), (.int .i64 40900), (.int .i64 92100), (.int .i64 18400), (.int .i64 71600), (.int .i64 153600)]), (26, [(.int .i64 950), (.int .i64 1500), (.int .i64 2800), (.int .i64 3500)])], [(.bool false)], (.slice 1002 0 4 4), [(1002, (.cells [(.int .i64 0), (.int .i64 1), (.int .i64 19), (.int .i64 200), (.int .i64 10200), (.int .i64 1), (.int .i64 3), (.int .i64 20), (.int .i64 40900), (.int .i64 1), (.int .i64 7), (.int .i64 25), (.int .i64 92100), (.int .i64 1), (.int .i64 7), (.int .i64 20)] 108 true))], 1032⟩
theorem e115_false_ok : EntAt Tryd.prog 115 e115_false := entOk_run (by kernel_rfl) smXok (fuel := 60) (by kernel_rfl) (by kernel_rfl) (fun t => by kernel_rfl) (by kernel_rfl)
noncomputable def e114_true : Ent := ⟨[(29, [(.int .i64 10000), (.int .i64 40000), (.int .i64 90000), (.int .i64 18000), (.int .i64 70000), (.int .i64 150000)]), (30, [(.int .i64 1000), (.int .i64 1500), (.int .i64 2800), (.int .i64 3500)])], [(.bool true)], (.sliceT 1027 0 4 4), [(1027, (.cells [(.int .i64 0), (.int .i64 1), (.int .i64 1), (.int .i64 10), (.int .i64 18000), (.int .i64 1), (.int .i64 3), (.int .i64 20), (.int .i64 70000), (.int .i64 1), (.int .i64 7), (.int .i64 25), (.int .i64 150000), (.int .i64 1), (.int .i64 7), (.int .i64 20)] 108 false))], 1028⟩
theorem e114_true_ok : EntAt Tryd.prog 114 e114_true := entOk_run (by kernel_rfl) smXok (fuel := 60) (by kernel_rfl) (by kernel_rfl) (fun t => by kernel_rfl) (by kernel_rfl)
noncomputable def e114_false : Ent := ⟨[(29, [(.int .i64 10000), (.int .i64 40000), (.int .i64 90000), (.int .i64 18000), (.int .i64 70000), (.int .i64 150000)]), (30, [(.int .i64 1000), (.int .i64 1500), (.int .i64 2800), (.int .i64 3500)])], [(.bool false)], (.sliceT 1026 0 4 4), [(1026, (.cells [(.int .i64 0), (.int .i64 1), (.int .i64 1), (.int .i64 10), (.int .i64 10000), (.int .i64 1), (.int .i64 3), (.int .i64 20), (.int .i64 40000), (.int .i64 1), (.int .i64 7), (.int .i64 25), (.int .i64 90000), (.int .i64 1), (.int .i64 7), (.int .i64 20)] 108 false))], 1027⟩
theorem e114_false_ok : EntAt Tryd.prog 114 e114_false := entOk_run (by kernel_rfl) smXok (fuel := 60) (by kernel_rfl) (by kernel_rfl) (fun t => by kernel_rfl) (by kernel_rfl)
noncomputable def e83 : Ent := ⟨[(24, [(.int .i64 128), (.int .i64 125)])], [], (.agg [(.int .i64 128), (.int .i64 125)]), [], 1001⟩
theorem e83_ok : EntAt Tryd.prog 83 e83 := entOk_run (by kernel_rfl) smXok (fuel := 60) (by kernel_rfl) (by kernel_rfl) (fun t => by kernel_rfl) (by kernel_rfl)
noncomputable def e111 : Ent := ⟨[], [], (.agg [(.int .i64 730485), (.int .i64 730850)]), [], 1001⟩
theorem e111_ok : EntAt Tryd.prog 111 e111 := entOk_run (by kernel_rfl) smXok (fuel := 60) (by kernel_rfl) (by kernel_rfl) (fun t => by kernel_rfl) (by kernel_rfl)
noncomputable def e94 : Ent := ⟨[(8, [(.int .i64 550), (.int .i64 975)])], [], (.agg [(.int .i64 600), (.int .i64 1050)]), [], 1036⟩
theorem e94_ok : EntAt Tryd.prog 94 e94 := entOk_run (by kernel_rfl) smXok (fuel := 60) (by kernel_rfl) (by kernel_rfl) (fun t => by kernel_rfl) (by kernel_rfl)
noncomputable def e113 : Ent := ⟨[], [], (.agg [(.int .i64 500), (.int .i64 900)]), [], 1005⟩
theorem e113_ok : EntAt Tryd.prog 113 e113 := entOk_run (by kernel_rfl) smXok (fuel := 60) (by kernel_rfl) (by kernel_rfl) (fun t => by kernel_rfl) (by kernel_rfl)
noncomputable def smSa : Sm := ⟨(.node none (.node none (.node none (.node none (.node (some [e85]) .leaf .leaf .leaf .leaf) .leaf .leaf .leaf) (.node (some [e37]) .leaf .leaf .leaf .leaf) .leaf .leaf) .leaf (.node none (.node (some [e29]) .leaf .leaf .leaf .leaf) (.node (some [e45]) .leaf .leaf .leaf .leaf) .leaf .leaf) (.node none .leaf (.node none (.node (some [e113]) .leaf .leaf .leaf .leaf) .leaf .leaf .leaf) .leaf .leaf)) (.node none .leaf (.node none .leaf .leaf (.node (some [e58]) .leaf .leaf .leaf .leaf) .leaf) (.node none (.node none (.node (some [e94]) .leaf .leaf .leaf .leaf) .leaf .leaf .leaf) (.node (some [e46]) .leaf .leaf .leaf .leaf) (.node (some [e62]) .leaf .leaf .leaf .leaf) .leaf) (.node none .leaf (.node (some [e50_true, e50_false]) (.node (some [e114_true, e114_false]) .leaf .leaf .leaf .leaf) .leaf .leaf .leaf) .leaf .leaf)) (.node none .leaf .leaf (.node none .leaf (.node none (.node (some [e111]) .leaf .leaf .leaf .leaf) .leaf .leaf .leaf) .leaf .leaf) (.node none .leaf (.node none (.node (some [e115_true, e115_false]) .leaf .leaf .leaf .leaf) .leaf .leaf .leaf) .leaf (.node (some [e83]) .leaf .leaf .leaf .leaf))) (.node none .leaf (.node none (.node none (.node (some [e92]) .leaf .leaf .leaf .leaf) .leaf .leaf .leaf) .leaf .leaf .leaf) (.node none .leaf .leaf (.node (some [e64]) .leaf .leaf .leaf .leaf) .leaf) (.node (some [e20]) .leaf .leaf .leaf (.node (some [e84]) .leaf .leaf .leaf .leaf)))), xsT⟩
theorem smSaok : SmOk Tryd.prog smSa := by
  have h : smSa = ⟨trL [(20, [e20]), (29, [e29]), (37, [e37]), (45, [e45]), (46, [e46]), (58, [e58]), (62, [e62]), (64, [e64]), (84, [e84]), (85, [e85]), (92, [e92]), (50, [e50_true, e50_false]), (115, [e115_true, e115_false]), (114, [e114_true, e114_false]), (83, [e83]), (111, [e111]), (94, [e94]), (113, [e113])], xsT⟩ := by kernel_rfl
  rw [h, xsT_eq]
  refine smOk_list (by kernel_rfl) ?_ ?_
  rotate_left
  · refine List.forall_mem_cons.2 ⟨ext_count Tryd.func188 (by kernel_rfl) (by kernel_rfl) (by kernel_rfl) (by kernel_rfl), ?_⟩
    refine List.forall_mem_cons.2 ⟨ext_index Tryd.func195 (by kernel_rfl) (by kernel_rfl) (by kernel_rfl) (by kernel_rfl), ?_⟩
    exact fun x h => nomatch h
  refine List.forall_mem_cons.2 ⟨List.forall_mem_cons.2 ⟨e20_ok, fun e h => nomatch h⟩, ?_⟩
  refine List.forall_mem_cons.2 ⟨List.forall_mem_cons.2 ⟨e29_ok, fun e h => nomatch h⟩, ?_⟩
  refine List.forall_mem_cons.2 ⟨List.forall_mem_cons.2 ⟨e37_ok, fun e h => nomatch h⟩, ?_⟩
  refine List.forall_mem_cons.2 ⟨List.forall_mem_cons.2 ⟨e45_ok, fun e h => nomatch h⟩, ?_⟩
  refine List.forall_mem_cons.2 ⟨List.forall_mem_cons.2 ⟨e46_ok, fun e h => nomatch h⟩, ?_⟩
  refine List.forall_mem_cons.2 ⟨List.forall_mem_cons.2 ⟨e58_ok, fun e h => nomatch h⟩, ?_⟩
  refine List.forall_mem_cons.2 ⟨List.forall_mem_cons.2 ⟨e62_ok, fun e h => nomatch h⟩, ?_⟩
  refine List.forall_mem_cons.2 ⟨List.forall_mem_cons.2 ⟨e64_ok, fun e h => nomatch h⟩, ?_⟩
  refine List.forall_mem_cons.2 ⟨List.forall_mem_cons.2 ⟨e84_ok, fun e h => nomatch h⟩, ?_⟩
  refine List.forall_mem_cons.2 ⟨List.forall_mem_cons.2 ⟨e85_ok, fun e h => nomatch h⟩, ?_⟩
  refine List.forall_mem_cons.2 ⟨List.forall_mem_cons.2 ⟨e92_ok, fun e h => nomatch h⟩, ?_⟩
  refine List.forall_mem_cons.2 ⟨List.forall_mem_cons.2 ⟨e50_true_ok, List.forall_mem_cons.2 ⟨e50_false_ok, fun e h => nomatch h⟩⟩, ?_⟩
  refine List.forall_mem_cons.2 ⟨List.forall_mem_cons.2 ⟨e115_true_ok, List.forall_mem_cons.2 ⟨e115_false_ok, fun e h => nomatch h⟩⟩, ?_⟩
  refine List.forall_mem_cons.2 ⟨List.forall_mem_cons.2 ⟨e114_true_ok, List.forall_mem_cons.2 ⟨e114_false_ok, fun e h => nomatch h⟩⟩, ?_⟩
  refine List.forall_mem_cons.2 ⟨List.forall_mem_cons.2 ⟨e83_ok, fun e h => nomatch h⟩, ?_⟩
  refine List.forall_mem_cons.2 ⟨List.forall_mem_cons.2 ⟨e111_ok, fun e h => nomatch h⟩, ?_⟩
  refine List.forall_mem_cons.2 ⟨List.forall_mem_cons.2 ⟨e94_ok, fun e h => nomatch h⟩, ?_⟩
  refine List.forall_mem_cons.2 ⟨List.forall_mem_cons.2 ⟨e113_ok, fun e h => nomatch h⟩, ?_⟩
  exact fun x h => nomatch h
end Go.Proofs.YtoafcdnkoecgiaaDoor
