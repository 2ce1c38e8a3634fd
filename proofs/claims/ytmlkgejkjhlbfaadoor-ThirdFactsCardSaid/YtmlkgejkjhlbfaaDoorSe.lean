/- What is known beforehand of functions of the program, each entry from a run of the executor. -/
import Derived.Test.YtmlkgejkjhlbfaaDoorXq1
import Derived.Test.YtmlkgejkjhlbfaaDoorRows
import Derived.Test.YtmlkgejkjhlbfaaDoorSa
import Derived.Test.YtmlkgejkjhlbfaaDoorSb
import Derived.Test.YtmlkgejkjhlbfaaDoorSc
import Derived.Test.YtmlkgejkjhlbfaaDoorSd
set_option maxRecDepth 1000000
namespace Go.Proofs.YtmlkgejkjhlbfaaDoor
open Go Go.Proofs.YtmlkgejkjhlbfaaDoor.Xq
noncomputable def e65_cpi_m1 : Ent := ⟨[(20, [(.int .i64 1000)]), (19, [(.int .i64 1024)])], [(.str 3 6516841), (.int .i64 (-1))], (.tuple [(.int .i64 0), (.bool false)]), [], 1009⟩
theorem e65_cpi_m1_ok : EntAt Tryd.prog 65 e65_cpi_m1 := entOk_run (by kernel_rfl) smSdok (fuel := 60) (by kernel_rfl) (by kernel_rfl) (fun t => by kernel_rfl) (by kernel_rfl)
noncomputable def e65_cpi_0 : Ent := ⟨[(20, [(.int .i64 1000)]), (19, [(.int .i64 1024)])], [(.str 3 6516841), (.int .i64 0)], (.tuple [(.int .i64 1061), (.bool true)]), [], 1009⟩
theorem e65_cpi_0_ok : EntAt Tryd.prog 65 e65_cpi_0 := entOk_run (by kernel_rfl) smSdok (fuel := 60) (by kernel_rfl) (by kernel_rfl) (fun t => by kernel_rfl) (by kernel_rfl)
noncomputable def e65_cpi_1 : Ent := ⟨[(20, [(.int .i64 1000)]), (19, [(.int .i64 1024)])], [(.str 3 6516841), (.int .i64 1)], (.tuple [(.int .i64 0), (.bool false)]), [], 1009⟩
theorem e65_cpi_1_ok : EntAt Tryd.prog 65 e65_cpi_1 := entOk_run (by kernel_rfl) smSdok (fuel := 60) (by kernel_rfl) (by kernel_rfl) (fun t => by kernel_rfl) (by kernel_rfl)
noncomputable def e65_cpi_2 : Ent := ⟨[(20, [(.int .i64 1000)]), (19, [(.int .i64 1024)])], [(.str 3 6516841), (.int .i64 2)], (.tuple [(.int .i64 0), (.bool false)]), [], 1009⟩
theorem e65_cpi_2_ok : EntAt Tryd.prog 65 e65_cpi_2 := entOk_run (by kernel_rfl) smSdok (fuel := 60) (by kernel_rfl) (by kernel_rfl) (fun t => by kernel_rfl) (by kernel_rfl)
noncomputable def e65_cpi_3 : Ent := ⟨[(20, [(.int .i64 1000)]), (19, [(.int .i64 1024)])], [(.str 3 6516841), (.int .i64 3)], (.tuple [(.int .i64 0), (.bool false)]), [], 1009⟩
theorem e65_cpi_3_ok : EntAt Tryd.prog 65 e65_cpi_3 := entOk_run (by kernel_rfl) smSdok (fuel := 60) (by kernel_rfl) (by kernel_rfl) (fun t => by kernel_rfl) (by kernel_rfl)
noncomputable def e65_cpi_4 : Ent := ⟨[(20, [(.int .i64 1000)]), (19, [(.int .i64 1024)])], [(.str 3 6516841), (.int .i64 4)], (.tuple [(.int .i64 0), (.bool false)]), [], 1009⟩
theorem e65_cpi_4_ok : EntAt Tryd.prog 65 e65_cpi_4 := entOk_run (by kernel_rfl) smSdok (fuel := 60) (by kernel_rfl) (by kernel_rfl) (fun t => by kernel_rfl) (by kernel_rfl)
noncomputable def e65_cpi_5 : Ent := ⟨[(20, [(.int .i64 1000)]), (19, [(.int .i64 1024)])], [(.str 3 6516841), (.int .i64 5)], (.tuple [(.int .i64 0), (.bool false)]), [], 1009⟩
theorem e65_cpi_5_ok : EntAt Tryd.prog 65 e65_cpi_5 := entOk_run (by kernel_rfl) smSdok (fuel := 60) (by kernel_rfl) (by kernel_rfl) (fun t => by kernel_rfl) (by kernel_rfl)
noncomputable def e65_cpi_6 : Ent := ⟨[(20, [(.int .i64 1000)]), (19, [(.int .i64 1024)])], [(.str 3 6516841), (.int .i64 6)], (.tuple [(.int .i64 0), (.bool false)]), [], 1009⟩
theorem e65_cpi_6_ok : EntAt Tryd.prog 65 e65_cpi_6 := entOk_run (by kernel_rfl) smSdok (fuel := 60) (by kernel_rfl) (by kernel_rfl) (fun t => by kernel_rfl) (by kernel_rfl)
noncomputable def e67_cpi : Ent := ⟨[(20, [(.int .i64 1000)]), (19, [(.int .i64 1024)])], [(.str 3 6516841)], (.tuple [(.int .i64 1061), (.bool true)]), [], 1009⟩
theorem e67_cpi_ok : EntAt Tryd.prog 67 e67_cpi := entOk_run (by kernel_rfl) smSdok (fuel := 60) (by kernel_rfl) (by kernel_rfl) (fun t => by kernel_rfl) (by kernel_rfl)
noncomputable def e65_factor_m1 : Ent := ⟨[(24, [(.int .i64 1061), (.int .i64 1024)])], [(.str 6 112568466435954), (.int .i64 (-1))], (.tuple [(.int .i64 0), (.bool false)]), [], 1002⟩
theorem e65_factor_m1_ok : EntAt Tryd.prog 65 e65_factor_m1 := entOk_run (by kernel_rfl) smSdok (fuel := 60) (by kernel_rfl) (by kernel_rfl) (fun t => by kernel_rfl) (by kernel_rfl)
noncomputable def e65_factor_0 : Ent := ⟨[(24, [(.int .i64 1061), (.int .i64 1024)])], [(.str 6 112568466435954), (.int .i64 0)], (.tuple [(.int .i64 1061), (.bool true)]), [], 1002⟩
theorem e65_factor_0_ok : EntAt Tryd.prog 65 e65_factor_0 := entOk_run (by kernel_rfl) smSdok (fuel := 60) (by kernel_rfl) (by kernel_rfl) (fun t => by kernel_rfl) (by kernel_rfl)
noncomputable def e65_factor_1 : Ent := ⟨[(24, [(.int .i64 1061), (.int .i64 1024)])], [(.str 6 112568466435954), (.int .i64 1)], (.tuple [(.int .i64 1024), (.bool true)]), [], 1002⟩
theorem e65_factor_1_ok : EntAt Tryd.prog 65 e65_factor_1 := entOk_run (by kernel_rfl) smSdok (fuel := 60) (by kernel_rfl) (by kernel_rfl) (fun t => by kernel_rfl) (by kernel_rfl)
noncomputable def e65_factor_2 : Ent := ⟨[(24, [(.int .i64 1061), (.int .i64 1024)])], [(.str 6 112568466435954), (.int .i64 2)], (.tuple [(.int .i64 0), (.bool false)]), [], 1002⟩
theorem e65_factor_2_ok : EntAt Tryd.prog 65 e65_factor_2 := entOk_run (by kernel_rfl) smSdok (fuel := 60) (by kernel_rfl) (by kernel_rfl) (fun t => by kernel_rfl) (by kernel_rfl)
noncomputable def e65_factor_3 : Ent := ⟨[(24, [(.int .i64 1061), (.int .i64 1024)])], [(.str 6 112568466435954), (.int .i64 3)], (.tuple [(.int .i64 0), (.bool false)]), [], 1002⟩
theorem e65_factor_3_ok : EntAt Tryd.prog 65 e65_factor_3 := entOk_run (by kernel_rfl) smSdok (fuel := 60) (by kernel_rfl) (by kernel_rfl) (fun t => by kernel_rfl) (by kernel_rfl)
noncomputable def e65_factor_4 : Ent := ⟨[(24, [(.int .i64 1061), (.int .i64 1024)])], [(.str 6 112568466435954), (.int .i64 4)], (.tuple [(.int .i64 0), (.bool false)]), [], 1002⟩
theorem e65_factor_4_ok : EntAt Tryd.prog 65 e65_factor_4 := entOk_run (by kernel_rfl) smSdok (fuel := 60) (by kernel_rfl) (by kernel_rfl) (fun t => by kernel_rfl) (by kernel_rfl)
noncomputable def e65_factor_5 : Ent := ⟨[(24, [(.int .i64 1061), (.int .i64 1024)])], [(.str 6 112568466435954), (.int .i64 5)], (.tuple [(.int .i64 0), (.bool false)]), [], 1002⟩
theorem e65_factor_5_ok : EntAt Tryd.prog 65 e65_factor_5 := entOk_run (by kernel_rfl) smSdok (fuel := 60) (by kernel_rfl) (by kernel_rfl) (fun t => by kernel_rfl) (by kernel_rfl)
noncomputable def e65_factor_6 : Ent := ⟨[(24, [(.int .i64 1061), (.int .i64 1024)])], [(.str 6 112568466435954), (.int .i64 6)], (.tuple [(.int .i64 0), (.bool false)]), [], 1002⟩
theorem e65_factor_6_ok : EntAt Tryd.prog 65 e65_factor_6 := entOk_run (by kernel_rfl) smSdok (fuel := 60) (by kernel_rfl) (by kernel_rfl) (fun t => by kernel_rfl) (by kernel_rfl)
noncomputable def e67_factor : Ent := ⟨[(24, [(.int .i64 1061), (.int .i64 1024)])], [(.str 6 112568466435954)], (.tuple [(.int .i64 2085), (.bool true)]), [], 1002⟩
theorem e67_factor_ok : EntAt Tryd.prog 67 e67_factor := entOk_run (by kernel_rfl) smSdok (fuel := 60) (by kernel_rfl) (by kernel_rfl) (fun t => by kernel_rfl) (by kernel_rfl)
noncomputable def e65_standard_m1 : Ent := ⟨[(11, [(.int .i64 4250), (.int .i64 7450)])], [(.str 8 8319381538418553444), (.int .i64 (-1))], (.tuple [(.int .i64 0), (.bool false)]), [], 1002⟩
theorem e65_standard_m1_ok : EntAt Tryd.prog 65 e65_standard_m1 := entOk_run (by kernel_rfl) smSdok (fuel := 60) (by kernel_rfl) (by kernel_rfl) (fun t => by kernel_rfl) (by kernel_rfl)
noncomputable def e65_standard_0 : Ent := ⟨[(11, [(.int .i64 4250), (.int .i64 7450)])], [(.str 8 8319381538418553444), (.int .i64 0)], (.tuple [(.int .i64 4250), (.bool true)]), [], 1002⟩
theorem e65_standard_0_ok : EntAt Tryd.prog 65 e65_standard_0 := entOk_run (by kernel_rfl) smSdok (fuel := 60) (by kernel_rfl) (by kernel_rfl) (fun t => by kernel_rfl) (by kernel_rfl)
noncomputable def e65_standard_1 : Ent := ⟨[(11, [(.int .i64 4250), (.int .i64 7450)])], [(.str 8 8319381538418553444), (.int .i64 1)], (.tuple [(.int .i64 7450), (.bool true)]), [], 1002⟩
theorem e65_standard_1_ok : EntAt Tryd.prog 65 e65_standard_1 := entOk_run (by kernel_rfl) smSdok (fuel := 60) (by kernel_rfl) (by kernel_rfl) (fun t => by kernel_rfl) (by kernel_rfl)
noncomputable def e65_standard_2 : Ent := ⟨[(11, [(.int .i64 4250), (.int .i64 7450)])], [(.str 8 8319381538418553444), (.int .i64 2)], (.tuple [(.int .i64 0), (.bool false)]), [], 1002⟩
theorem e65_standard_2_ok : EntAt Tryd.prog 65 e65_standard_2 := entOk_run (by kernel_rfl) smSdok (fuel := 60) (by kernel_rfl) (by kernel_rfl) (fun t => by kernel_rfl) (by kernel_rfl)
noncomputable def e65_standard_3 : Ent := ⟨[(11, [(.int .i64 4250), (.int .i64 7450)])], [(.str 8 8319381538418553444), (.int .i64 3)], (.tuple [(.int .i64 0), (.bool false)]), [], 1002⟩
theorem e65_standard_3_ok : EntAt Tryd.prog 65 e65_standard_3 := entOk_run (by kernel_rfl) smSdok (fuel := 60) (by kernel_rfl) (by kernel_rfl) (fun t => by kernel_rfl) (by kernel_rfl)
noncomputable def e65_standard_4 : Ent := ⟨[(11, [(.int .i64 4250), (.int .i64 7450)])], [(.str 8 8319381538418553444), (.int .i64 4)], (.tuple [(.int .i64 0), (.bool false)]), [], 1002⟩
theorem e65_standard_4_ok : EntAt Tryd.prog 65 e65_standard_4 := entOk_run (by kernel_rfl) smSdok (fuel := 60) (by kernel_rfl) (by kernel_rfl) (fun t => by kernel_rfl) (by kernel_rfl)
noncomputable def e65_standard_5 : Ent := ⟨[(11, [(.int .i64 4250), (.int .i64 7450)])], [(.str 8 8319381538418553444), (.int .i64 5)], (.tuple [(.int .i64 0), (.bool false)]), [], 1002⟩
theorem e65_standard_5_ok : EntAt Tryd.prog 65 e65_standard_5 := entOk_run (by kernel_rfl) smSdok (fuel := 60) (by kernel_rfl) (by kernel_rfl) (fun t => by kernel_rfl) (by kernel_rfl)
noncomputable def e65_standard_6 : Ent := ⟨[(11, [(.int .i64 4250), (.int .i64 7450)])], [(.str 8 8319381538418553444), (.int .i64 6)], (.tuple [(.int .i64 0), (.bool false)]), [], 1002⟩
theorem e65_standard_6_ok : EntAt Tryd.prog 65 e65_standard_6 := entOk_run (by kernel_rfl) smSdok (fuel := 60) (by kernel_rfl) (by kernel_rfl) (fun t => by kernel_rfl) (by kernel_rfl)
noncomputable def e67_standard : Ent := ⟨[(11, [(.int .i64 4250), (.int .i64 7450)])], [(.str 8 8319381538418553444)], (.tuple [(.int .i64 11700), (.bool true)]), [], 1002⟩
theorem e67_standard_ok : EntAt Tryd.prog 67 e67_standard := entOk_run (by kernel_rfl) smSdok (fuel := 60) (by kernel_rfl) (by kernel_rfl) (fun t => by kernel_rfl) (by kernel_rfl)
noncomputable def e65_top_m1 : Ent := ⟨[(13, [(.int .i64 10500), (.int .i64 42300), (.int .i64 95400), (.int .i64 19000), (.int .i64 74100), (.int .i64 159100)])], [(.str 3 7630704), (.int .i64 (-1))], (.tuple [(.int .i64 0), (.bool false)]), [], 1002⟩
theorem e65_top_m1_ok : EntAt Tryd.prog 65 e65_top_m1 := entOk_run (by kernel_rfl) smSdok (fuel := 60) (by kernel_rfl) (by kernel_rfl) (fun t => by kernel_rfl) (by kernel_rfl)
noncomputable def e65_top_0 : Ent := ⟨[(13, [(.int .i64 10500), (.int .i64 42300), (.int .i64 95400), (.int .i64 19000), (.int .i64 74100), (.int .i64 159100)])], [(.str 3 7630704), (.int .i64 0)], (.tuple [(.int .i64 10500), (.bool true)]), [], 1002⟩
theorem e65_top_0_ok : EntAt Tryd.prog 65 e65_top_0 := entOk_run (by kernel_rfl) smSdok (fuel := 60) (by kernel_rfl) (by kernel_rfl) (fun t => by kernel_rfl) (by kernel_rfl)
noncomputable def e65_top_1 : Ent := ⟨[(13, [(.int .i64 10500), (.int .i64 42300), (.int .i64 95400), (.int .i64 19000), (.int .i64 74100), (.int .i64 159100)])], [(.str 3 7630704), (.int .i64 1)], (.tuple [(.int .i64 42300), (.bool true)]), [], 1002⟩
theorem e65_top_1_ok : EntAt Tryd.prog 65 e65_top_1 := entOk_run (by kernel_rfl) smSdok (fuel := 60) (by kernel_rfl) (by kernel_rfl) (fun t => by kernel_rfl) (by kernel_rfl)
noncomputable def e65_top_2 : Ent := ⟨[(13, [(.int .i64 10500), (.int .i64 42300), (.int .i64 95400), (.int .i64 19000), (.int .i64 74100), (.int .i64 159100)])], [(.str 3 7630704), (.int .i64 2)], (.tuple [(.int .i64 95400), (.bool true)]), [], 1002⟩
theorem e65_top_2_ok : EntAt Tryd.prog 65 e65_top_2 := entOk_run (by kernel_rfl) smSdok (fuel := 60) (by kernel_rfl) (by kernel_rfl) (fun t => by kernel_rfl) (by kernel_rfl)
noncomputable def e65_top_3 : Ent := ⟨[(13, [(.int .i64 10500), (.int .i64 42300), (.int .i64 95400), (.int .i64 19000), (.int .i64 74100), (.int .i64 159100)])], [(.str 3 7630704), (.int .i64 3)], (.tuple [(.int .i64 19000), (.bool true)]), [], 1002⟩
theorem e65_top_3_ok : EntAt Tryd.prog 65 e65_top_3 := entOk_run (by kernel_rfl) smSdok (fuel := 60) (by kernel_rfl) (by kernel_rfl) (fun t => by kernel_rfl) (by kernel_rfl)
noncomputable def e65_top_4 : Ent := ⟨[(13, [(.int .i64 10500), (.int .i64 42300), (.int .i64 95400), (.int .i64 19000), (.int .i64 74100), (.int .i64 159100)])], [(.str 3 7630704), (.int .i64 4)], (.tuple [(.int .i64 74100), (.bool true)]), [], 1002⟩
theorem e65_top_4_ok : EntAt Tryd.prog 65 e65_top_4 := entOk_run (by kernel_rfl) smSdok (fuel := 60) (by kernel_rfl) (by kernel_rfl) (fun t => by kernel_rfl) (by kernel_rfl)
noncomputable def e65_top_5 : Ent := ⟨[(13, [(.int .i64 10500), (.int .i64 42300), (.int .i64 95400), (.int .i64 19000), (.int .i64 74100), (.int .i64 159100)])], [(.str 3 7630704), (.int .i64 5)], (.tuple [(.int .i64 159100), (.bool true)]), [], 1002⟩
theorem e65_top_5_ok : EntAt Tryd.prog 65 e65_top_5 := entOk_run (by kernel_rfl) smSdok (fuel := 60) (by kernel_rfl) (by kernel_rfl) (fun t => by kernel_rfl) (by kernel_rfl)
noncomputable def e65_top_6 : Ent := ⟨[(13, [(.int .i64 10500), (.int .i64 42300), (.int .i64 95400), (.int .i64 19000), (.int .i64 74100), (.int .i64 159100)])], [(.str 3 7630704), (.int .i64 6)], (.tuple [(.int .i64 0), (.bool false)]), [], 1002⟩
theorem e65_top_6_ok : EntAt Tryd.prog 65 e65_top_6 := entOk_run (by kernel_rfl) smSdok (fuel := 60) (by kernel_rfl) (by kernel_rfl) (fun t => by kernel_rfl) (by kernel_rfl)
noncomputable def e67_top : Ent := ⟨[(13, [(.int .i64 10500), (.int .i64 42300), (.int .i64 95400), (.int .i64 19000), (.int .i64 74100), (.int .i64 159100)])], [(.str 3 7630704)], (.tuple [(.int .i64 400400), (.bool true)]), [], 1002⟩
theorem e67_top_ok : EntAt Tryd.prog 67 e67_top := entOk_run (by kernel_rfl) smSdok (fuel := 60) (by kernel_rfl) (by kernel_rfl) (fun t => by kernel_rfl) (by kernel_rfl)
noncomputable def e65_rate_m1 : Ent := ⟨[(9, [(.int .i64 950), (.int .i64 1500), (.int .i64 2800), (.int .i64 3500)])], [(.str 4 1918989413), (.int .i64 (-1))], (.tuple [(.int .i64 0), (.bool false)]), [], 1062⟩
theorem e65_rate_m1_ok : EntAt Tryd.prog 65 e65_rate_m1 := entOk_run (by kernel_rfl) smSdok (fuel := 60) (by kernel_rfl) (by kernel_rfl) (fun t => by kernel_rfl) (by kernel_rfl)
noncomputable def e65_rate_0 : Ent := ⟨[(9, [(.int .i64 950), (.int .i64 1500), (.int .i64 2800), (.int .i64 3500)])], [(.str 4 1918989413), (.int .i64 0)], (.tuple [(.int .i64 950), (.bool true)]), [], 1062⟩
theorem e65_rate_0_ok : EntAt Tryd.prog 65 e65_rate_0 := entOk_run (by kernel_rfl) smSdok (fuel := 60) (by kernel_rfl) (by kernel_rfl) (fun t => by kernel_rfl) (by kernel_rfl)
noncomputable def e65_rate_1 : Ent := ⟨[(9, [(.int .i64 950), (.int .i64 1500), (.int .i64 2800), (.int .i64 3500)])], [(.str 4 1918989413), (.int .i64 1)], (.tuple [(.int .i64 1500), (.bool true)]), [], 1062⟩
theorem e65_rate_1_ok : EntAt Tryd.prog 65 e65_rate_1 := entOk_run (by kernel_rfl) smSdok (fuel := 60) (by kernel_rfl) (by kernel_rfl) (fun t => by kernel_rfl) (by kernel_rfl)
noncomputable def e65_rate_2 : Ent := ⟨[(9, [(.int .i64 950), (.int .i64 1500), (.int .i64 2800), (.int .i64 3500)])], [(.str 4 1918989413), (.int .i64 2)], (.tuple [(.int .i64 2800), (.bool true)]), [], 1062⟩
theorem e65_rate_2_ok : EntAt Tryd.prog 65 e65_rate_2 := entOk_run (by kernel_rfl) smSdok (fuel := 60) (by kernel_rfl) (by kernel_rfl) (fun t => by kernel_rfl) (by kernel_rfl)
noncomputable def e65_rate_3 : Ent := ⟨[(9, [(.int .i64 950), (.int .i64 1500), (.int .i64 2800), (.int .i64 3500)])], [(.str 4 1918989413), (.int .i64 3)], (.tuple [(.int .i64 3960), (.bool true)]), [], 1062⟩
theorem e65_rate_3_ok : EntAt Tryd.prog 65 e65_rate_3 := entOk_run (by kernel_rfl) smSdok (fuel := 60) (by kernel_rfl) (by kernel_rfl) (fun t => by kernel_rfl) (by kernel_rfl)
noncomputable def e65_rate_4 : Ent := ⟨[(9, [(.int .i64 950), (.int .i64 1500), (.int .i64 2800), (.int .i64 3500)])], [(.str 4 1918989413), (.int .i64 4)], (.tuple [(.int .i64 0), (.bool false)]), [], 1062⟩
theorem e65_rate_4_ok : EntAt Tryd.prog 65 e65_rate_4 := entOk_run (by kernel_rfl) smSdok (fuel := 60) (by kernel_rfl) (by kernel_rfl) (fun t => by kernel_rfl) (by kernel_rfl)
noncomputable def e65_rate_5 : Ent := ⟨[(9, [(.int .i64 950), (.int .i64 1500), (.int .i64 2800), (.int .i64 3500)])], [(.str 4 1918989413), (.int .i64 5)], (.tuple [(.int .i64 0), (.bool false)]), [], 1062⟩
theorem e65_rate_5_ok : EntAt Tryd.prog 65 e65_rate_5 := entOk_run (by kernel_rfl) smSdok (fuel := 60) (by kernel_rfl) (by kernel_rfl) (fun t => by kernel_rfl) (by kernel_rfl)
noncomputable def e65_rate_6 : Ent := ⟨[(9, [(.int .i64 950), (.int .i64 1500), (.int .i64 2800), (.int .i64 3500)])], [(.str 4 1918989413), (.int .i64 6)], (.tuple [(.int .i64 0), (.bool false)]), [], 1062⟩
theorem e65_rate_6_ok : EntAt Tryd.prog 65 e65_rate_6 := entOk_run (by kernel_rfl) smSdok (fuel := 60) (by kernel_rfl) (by kernel_rfl) (fun t => by kernel_rfl) (by kernel_rfl)
noncomputable def e67_rate : Ent := ⟨[(9, [(.int .i64 950), (.int .i64 1500), (.int .i64 2800), (.int .i64 3500)])], [(.str 4 1918989413)], (.tuple [(.int .i64 9210), (.bool true)]), [], 1062⟩
theorem e67_rate_ok : EntAt Tryd.prog 67 e67_rate := entOk_run (by kernel_rfl) smSdok (fuel := 60) (by kernel_rfl) (by kernel_rfl) (fun t => by kernel_rfl) (by kernel_rfl)
noncomputable def e65_credit_m1 : Ent := ⟨[(6, [(.int .i64 550), (.int .i64 975)])], [(.str 6 109342978500980), (.int .i64 (-1))], (.tuple [(.int .i64 0), (.bool false)]), [], 1076⟩
theorem e65_credit_m1_ok : EntAt Tryd.prog 65 e65_credit_m1 := entOk_run (by kernel_rfl) smSdok (fuel := 60) (by kernel_rfl) (by kernel_rfl) (fun t => by kernel_rfl) (by kernel_rfl)
noncomputable def e65_credit_0 : Ent := ⟨[(6, [(.int .i64 550), (.int .i64 975)])], [(.str 6 109342978500980), (.int .i64 0)], (.tuple [(.int .i64 600), (.bool true)]), [], 1076⟩
theorem e65_credit_0_ok : EntAt Tryd.prog 65 e65_credit_0 := entOk_run (by kernel_rfl) smSdok (fuel := 60) (by kernel_rfl) (by kernel_rfl) (fun t => by kernel_rfl) (by kernel_rfl)
noncomputable def e65_credit_1 : Ent := ⟨[(6, [(.int .i64 550), (.int .i64 975)])], [(.str 6 109342978500980), (.int .i64 1)], (.tuple [(.int .i64 1050), (.bool true)]), [], 1076⟩
theorem e65_credit_1_ok : EntAt Tryd.prog 65 e65_credit_1 := entOk_run (by kernel_rfl) smSdok (fuel := 60) (by kernel_rfl) (by kernel_rfl) (fun t => by kernel_rfl) (by kernel_rfl)
noncomputable def e65_credit_2 : Ent := ⟨[(6, [(.int .i64 550), (.int .i64 975)])], [(.str 6 109342978500980), (.int .i64 2)], (.tuple [(.int .i64 0), (.bool false)]), [], 1076⟩
theorem e65_credit_2_ok : EntAt Tryd.prog 65 e65_credit_2 := entOk_run (by kernel_rfl) smSdok (fuel := 60) (by kernel_rfl) (by kernel_rfl) (fun t => by kernel_rfl) (by kernel_rfl)
noncomputable def e65_credit_3 : Ent := ⟨[(6, [(.int .i64 550), (.int .i64 975)])], [(.str 6 109342978500980), (.int .i64 3)], (.tuple [(.int .i64 0), (.bool false)]), [], 1076⟩
theorem e65_credit_3_ok : EntAt Tryd.prog 65 e65_credit_3 := entOk_run (by kernel_rfl) smSdok (fuel := 60) (by kernel_rfl) (by kernel_rfl) (fun t => by kernel_rfl) (by kernel_rfl)
noncomputable def e65_credit_4 : Ent := ⟨[(6, [(.int .i64 550), (.int .i64 975)])], [(.str 6 109342978500980), (.int .i64 4)], (.tuple [(.int .i64 0), (.bool false)]), [], 1076⟩
theorem e65_credit_4_ok : EntAt Tryd.prog 65 e65_credit_4 := entOk_run (by kernel_rfl) smSdok (fuel := 60) (by kernel_rfl) (by kernel_rfl) (fun t => by kernel_rfl) (by kernel_rfl)
noncomputable def e65_credit_5 : Ent := ⟨[(6, [(.int .i64 550), (.int .i64 975)])], [(.str 6 109342978500980), (.int .i64 5)], (.tuple [(.int .i64 0), (.bool false)]), [], 1076⟩
theorem e65_credit_5_ok : EntAt Tryd.prog 65 e65_credit_5 := entOk_run (by kernel_rfl) smSdok (fuel := 60) (by kernel_rfl) (by kernel_rfl) (fun t => by kernel_rfl) (by kernel_rfl)
noncomputable def e65_credit_6 : Ent := ⟨[(6, [(.int .i64 550), (.int .i64 975)])], [(.str 6 109342978500980), (.int .i64 6)], (.tuple [(.int .i64 0), (.bool false)]), [], 1076⟩
theorem e65_credit_6_ok : EntAt Tryd.prog 65 e65_credit_6 := entOk_run (by kernel_rfl) smSdok (fuel := 60) (by kernel_rfl) (by kernel_rfl) (fun t => by kernel_rfl) (by kernel_rfl)
noncomputable def e67_credit : Ent := ⟨[(6, [(.int .i64 550), (.int .i64 975)])], [(.str 6 109342978500980)], (.tuple [(.int .i64 1650), (.bool true)]), [], 1076⟩
theorem e67_credit_ok : EntAt Tryd.prog 67 e67_credit := entOk_run (by kernel_rfl) smSdok (fuel := 60) (by kernel_rfl) (by kernel_rfl) (fun t => by kernel_rfl) (by kernel_rfl)
noncomputable def e65_phase_m1 : Ent := ⟨[(12, [(.int .i64 62000)])], [(.str 5 482787554149), (.int .i64 (-1))], (.tuple [(.int .i64 0), (.bool false)]), [], 1002⟩
theorem e65_phase_m1_ok : EntAt Tryd.prog 65 e65_phase_m1 := entOk_run (by kernel_rfl) smSdok (fuel := 60) (by kernel_rfl) (by kernel_rfl) (fun t => by kernel_rfl) (by kernel_rfl)
noncomputable def e65_phase_0 : Ent := ⟨[(12, [(.int .i64 62000)])], [(.str 5 482787554149), (.int .i64 0)], (.tuple [(.int .i64 62000), (.bool true)]), [], 1002⟩
theorem e65_phase_0_ok : EntAt Tryd.prog 65 e65_phase_0 := entOk_run (by kernel_rfl) smSdok (fuel := 60) (by kernel_rfl) (by kernel_rfl) (fun t => by kernel_rfl) (by kernel_rfl)
noncomputable def e65_phase_1 : Ent := ⟨[(12, [(.int .i64 62000)])], [(.str 5 482787554149), (.int .i64 1)], (.tuple [(.int .i64 0), (.bool false)]), [], 1002⟩
theorem e65_phase_1_ok : EntAt Tryd.prog 65 e65_phase_1 := entOk_run (by kernel_rfl) smSdok (fuel := 60) (by kernel_rfl) (by kernel_rfl) (fun t => by kernel_rfl) (by kernel_rfl)
noncomputable def e65_phase_2 : Ent := ⟨[(12, [(.int .i64 62000)])], [(.str 5 482787554149), (.int .i64 2)], (.tuple [(.int .i64 0), (.bool false)]), [], 1002⟩
theorem e65_phase_2_ok : EntAt Tryd.prog 65 e65_phase_2 := entOk_run (by kernel_rfl) smSdok (fuel := 60) (by kernel_rfl) (by kernel_rfl) (fun t => by kernel_rfl) (by kernel_rfl)
noncomputable def e65_phase_3 : Ent := ⟨[(12, [(.int .i64 62000)])], [(.str 5 482787554149), (.int .i64 3)], (.tuple [(.int .i64 0), (.bool false)]), [], 1002⟩
theorem e65_phase_3_ok : EntAt Tryd.prog 65 e65_phase_3 := entOk_run (by kernel_rfl) smSdok (fuel := 60) (by kernel_rfl) (by kernel_rfl) (fun t => by kernel_rfl) (by kernel_rfl)
noncomputable def e65_phase_4 : Ent := ⟨[(12, [(.int .i64 62000)])], [(.str 5 482787554149), (.int .i64 4)], (.tuple [(.int .i64 0), (.bool false)]), [], 1002⟩
theorem e65_phase_4_ok : EntAt Tryd.prog 65 e65_phase_4 := entOk_run (by kernel_rfl) smSdok (fuel := 60) (by kernel_rfl) (by kernel_rfl) (fun t => by kernel_rfl) (by kernel_rfl)
noncomputable def e65_phase_5 : Ent := ⟨[(12, [(.int .i64 62000)])], [(.str 5 482787554149), (.int .i64 5)], (.tuple [(.int .i64 0), (.bool false)]), [], 1002⟩
theorem e65_phase_5_ok : EntAt Tryd.prog 65 e65_phase_5 := entOk_run (by kernel_rfl) smSdok (fuel := 60) (by kernel_rfl) (by kernel_rfl) (fun t => by kernel_rfl) (by kernel_rfl)
noncomputable def e65_phase_6 : Ent := ⟨[(12, [(.int .i64 62000)])], [(.str 5 482787554149), (.int .i64 6)], (.tuple [(.int .i64 0), (.bool false)]), [], 1002⟩
theorem e65_phase_6_ok : EntAt Tryd.prog 65 e65_phase_6 := entOk_run (by kernel_rfl) smSdok (fuel := 60) (by kernel_rfl) (by kernel_rfl) (fun t => by kernel_rfl) (by kernel_rfl)
noncomputable def e67_phase : Ent := ⟨[(12, [(.int .i64 62000)])], [(.str 5 482787554149)], (.tuple [(.int .i64 62000), (.bool true)]), [], 1002⟩
theorem e67_phase_ok : EntAt Tryd.prog 67 e67_phase := entOk_run (by kernel_rfl) smSdok (fuel := 60) (by kernel_rfl) (by kernel_rfl) (fun t => by kernel_rfl) (by kernel_rfl)
noncomputable def e66_cpi_m1 : Ent := ⟨[], [(.str 3 6516841), (.int .i64 (-1))], (.tuple [(.int .i64 0), (.bool false)]), [], 1001⟩
theorem e66_cpi_m1_ok : EntAt Tryd.prog 66 e66_cpi_m1 := entOk_run (by kernel_rfl) smSdok (fuel := 60) (by kernel_rfl) (by kernel_rfl) (fun t => by kernel_rfl) (by kernel_rfl)
noncomputable def e66_cpi_0 : Ent := ⟨[], [(.str 3 6516841), (.int .i64 0)], (.tuple [(.int .i64 1061), (.bool true)]), [], 1001⟩
theorem e66_cpi_0_ok : EntAt Tryd.prog 66 e66_cpi_0 := entOk_run (by kernel_rfl) smSdok (fuel := 60) (by kernel_rfl) (by kernel_rfl) (fun t => by kernel_rfl) (by kernel_rfl)
noncomputable def e66_cpi_1 : Ent := ⟨[], [(.str 3 6516841), (.int .i64 1)], (.tuple [(.int .i64 0), (.bool false)]), [], 1001⟩
theorem e66_cpi_1_ok : EntAt Tryd.prog 66 e66_cpi_1 := entOk_run (by kernel_rfl) smSdok (fuel := 60) (by kernel_rfl) (by kernel_rfl) (fun t => by kernel_rfl) (by kernel_rfl)
noncomputable def e66_cpi_2 : Ent := ⟨[], [(.str 3 6516841), (.int .i64 2)], (.tuple [(.int .i64 0), (.bool false)]), [], 1001⟩
theorem e66_cpi_2_ok : EntAt Tryd.prog 66 e66_cpi_2 := entOk_run (by kernel_rfl) smSdok (fuel := 60) (by kernel_rfl) (by kernel_rfl) (fun t => by kernel_rfl) (by kernel_rfl)
noncomputable def e66_cpi_3 : Ent := ⟨[], [(.str 3 6516841), (.int .i64 3)], (.tuple [(.int .i64 0), (.bool false)]), [], 1001⟩
theorem e66_cpi_3_ok : EntAt Tryd.prog 66 e66_cpi_3 := entOk_run (by kernel_rfl) smSdok (fuel := 60) (by kernel_rfl) (by kernel_rfl) (fun t => by kernel_rfl) (by kernel_rfl)
noncomputable def e66_cpi_4 : Ent := ⟨[], [(.str 3 6516841), (.int .i64 4)], (.tuple [(.int .i64 0), (.bool false)]), [], 1001⟩
theorem e66_cpi_4_ok : EntAt Tryd.prog 66 e66_cpi_4 := entOk_run (by kernel_rfl) smSdok (fuel := 60) (by kernel_rfl) (by kernel_rfl) (fun t => by kernel_rfl) (by kernel_rfl)
noncomputable def e66_cpi_5 : Ent := ⟨[], [(.str 3 6516841), (.int .i64 5)], (.tuple [(.int .i64 0), (.bool false)]), [], 1001⟩
theorem e66_cpi_5_ok : EntAt Tryd.prog 66 e66_cpi_5 := entOk_run (by kernel_rfl) smSdok (fuel := 60) (by kernel_rfl) (by kernel_rfl) (fun t => by kernel_rfl) (by kernel_rfl)
noncomputable def e66_cpi_6 : Ent := ⟨[], [(.str 3 6516841), (.int .i64 6)], (.tuple [(.int .i64 0), (.bool false)]), [], 1001⟩
theorem e66_cpi_6_ok : EntAt Tryd.prog 66 e66_cpi_6 := entOk_run (by kernel_rfl) smSdok (fuel := 60) (by kernel_rfl) (by kernel_rfl) (fun t => by kernel_rfl) (by kernel_rfl)
noncomputable def e68_cpi : Ent := ⟨[], [(.str 3 6516841)], (.tuple [(.int .i64 1061), (.bool true)]), [], 1001⟩
theorem e68_cpi_ok : EntAt Tryd.prog 68 e68_cpi := entOk_run (by kernel_rfl) smSdok (fuel := 60) (by kernel_rfl) (by kernel_rfl) (fun t => by kernel_rfl) (by kernel_rfl)
noncomputable def e66_factor_m1 : Ent := ⟨[], [(.str 6 112568466435954), (.int .i64 (-1))], (.tuple [(.int .i64 0), (.bool false)]), [], 1001⟩
theorem e66_factor_m1_ok : EntAt Tryd.prog 66 e66_factor_m1 := entOk_run (by kernel_rfl) smSdok (fuel := 60) (by kernel_rfl) (by kernel_rfl) (fun t => by kernel_rfl) (by kernel_rfl)
noncomputable def e66_factor_0 : Ent := ⟨[], [(.str 6 112568466435954), (.int .i64 0)], (.tuple [(.int .i64 1061), (.bool true)]), [], 1001⟩
theorem e66_factor_0_ok : EntAt Tryd.prog 66 e66_factor_0 := entOk_run (by kernel_rfl) smSdok (fuel := 60) (by kernel_rfl) (by kernel_rfl) (fun t => by kernel_rfl) (by kernel_rfl)
noncomputable def e66_factor_1 : Ent := ⟨[], [(.str 6 112568466435954), (.int .i64 1)], (.tuple [(.int .i64 1024), (.bool true)]), [], 1001⟩
theorem e66_factor_1_ok : EntAt Tryd.prog 66 e66_factor_1 := entOk_run (by kernel_rfl) smSdok (fuel := 60) (by kernel_rfl) (by kernel_rfl) (fun t => by kernel_rfl) (by kernel_rfl)
noncomputable def e66_factor_2 : Ent := ⟨[], [(.str 6 112568466435954), (.int .i64 2)], (.tuple [(.int .i64 0), (.bool false)]), [], 1001⟩
theorem e66_factor_2_ok : EntAt Tryd.prog 66 e66_factor_2 := entOk_run (by kernel_rfl) smSdok (fuel := 60) (by kernel_rfl) (by kernel_rfl) (fun t => by kernel_rfl) (by kernel_rfl)
noncomputable def e66_factor_3 : Ent := ⟨[], [(.str 6 112568466435954), (.int .i64 3)], (.tuple [(.int .i64 0), (.bool false)]), [], 1001⟩
theorem e66_factor_3_ok : EntAt Tryd.prog 66 e66_factor_3 := entOk_run (by kernel_rfl) smSdok (fuel := 60) (by kernel_rfl) (by kernel_rfl) (fun t => by kernel_rfl) (by kernel_rfl)
noncomputable def e66_factor_4 : Ent := ⟨[], [(.str 6 112568466435954), (.int .i64 4)], (.tuple [(.int .i64 0), (.bool false)]), [], 1001⟩
theorem e66_factor_4_ok : EntAt Tryd.prog 66 e66_factor_4 := entOk_run (by kernel_rfl) smSdok (fuel := 60) (by kernel_rfl) (by kernel_rfl) (fun t => by kernel_rfl) (by kernel_rfl)
noncomputable def e66_factor_5 : Ent := ⟨[], [(.str 6 112568466435954), (.int .i64 5)], (.tuple [(.int .i64 0), (.bool false)]), [], 1001⟩
theorem e66_factor_5_ok : EntAt Tryd.prog 66 e66_factor_5 := entOk_run (by kernel_rfl) smSdok (fuel := 60) (by kernel_rfl) (by kernel_rfl) (fun t => by kernel_rfl) (by kernel_rfl)
noncomputable def e66_factor_6 : Ent := ⟨[], [(.str 6 112568466435954), (.int .i64 6)], (.tuple [(.int .i64 0), (.bool false)]), [], 1001⟩
theorem e66_factor_6_ok : EntAt Tryd.prog 66 e66_factor_6 := entOk_run (by kernel_rfl) smSdok (fuel := 60) (by kernel_rfl) (by kernel_rfl) (fun t => by kernel_rfl) (by kernel_rfl)
noncomputable def e68_factor : Ent := ⟨[], [(.str 6 112568466435954)], (.tuple [(.int .i64 2085), (.bool true)]), [], 1001⟩
theorem e68_factor_ok : EntAt Tryd.prog 68 e68_factor := entOk_run (by kernel_rfl) smSdok (fuel := 60) (by kernel_rfl) (by kernel_rfl) (fun t => by kernel_rfl) (by kernel_rfl)
noncomputable def e66_standard_m1 : Ent := ⟨[], [(.str 8 8319381538418553444), (.int .i64 (-1))], (.tuple [(.int .i64 0), (.bool false)]), [], 1001⟩
theorem e66_standard_m1_ok : EntAt Tryd.prog 66 e66_standard_m1 := entOk_run (by kernel_rfl) smSdok (fuel := 60) (by kernel_rfl) (by kernel_rfl) (fun t => by kernel_rfl) (by kernel_rfl)
noncomputable def e66_standard_0 : Ent := ⟨[], [(.str 8 8319381538418553444), (.int .i64 0)], (.tuple [(.int .i64 4250), (.bool true)]), [], 1001⟩
theorem e66_standard_0_ok : EntAt Tryd.prog 66 e66_standard_0 := entOk_run (by kernel_rfl) smSdok (fuel := 60) (by kernel_rfl) (by kernel_rfl) (fun t => by kernel_rfl) (by kernel_rfl)
noncomputable def e66_standard_1 : Ent := ⟨[], [(.str 8 8319381538418553444), (.int .i64 1)], (.tuple [(.int .i64 7450), (.bool true)]), [], 1001⟩
theorem e66_standard_1_ok : EntAt Tryd.prog 66 e66_standard_1 := entOk_run (by kernel_rfl) smSdok (fuel := 60) (by kernel_rfl) (by kernel_rfl) (fun t => by kernel_rfl) (by kernel_rfl)
noncomputable def e66_standard_2 : Ent := ⟨[], [(.str 8 8319381538418553444), (.int .i64 2)], (.tuple [(.int .i64 0), (.bool false)]), [], 1001⟩
theorem e66_standard_2_ok : EntAt Tryd.prog 66 e66_standard_2 := entOk_run (by kernel_rfl) smSdok (fuel := 60) (by kernel_rfl) (by kernel_rfl) (fun t => by kernel_rfl) (by kernel_rfl)
noncomputable def e66_standard_3 : Ent := ⟨[], [(.str 8 8319381538418553444), (.int .i64 3)], (.tuple [(.int .i64 0), (.bool false)]), [], 1001⟩
theorem e66_standard_3_ok : EntAt Tryd.prog 66 e66_standard_3 := entOk_run (by kernel_rfl) smSdok (fuel := 60) (by kernel_rfl) (by kernel_rfl) (fun t => by kernel_rfl) (by kernel_rfl)
noncomputable def e66_standard_4 : Ent := ⟨[], [(.str 8 8319381538418553444), (.int .i64 4)], (.tuple [(.int .i64 0), (.bool false)]), [], 1001⟩
theorem e66_standard_4_ok : EntAt Tryd.prog 66 e66_standard_4 := entOk_run (by kernel_rfl) smSdok (fuel := 60) (by kernel_rfl) (by kernel_rfl) (fun t => by kernel_rfl) (by kernel_rfl)
noncomputable def e66_standard_5 : Ent := ⟨[], [(.str 8 8319381538418553444), (.int .i64 5)], (.tuple [(.int .i64 0), (.bool false)]), [], 1001⟩
theorem e66_standard_5_ok : EntAt Tryd.prog 66 e66_standard_5 := entOk_run (by kernel_rfl) smSdok (fuel := 60) (by kernel_rfl) (by kernel_rfl) (fun t => by kernel_rfl) (by kernel_rfl)
noncomputable def e66_standard_6 : Ent := ⟨[], [(.str 8 8319381538418553444), (.int .i64 6)], (.tuple [(.int .i64 0), (.bool false)]), [], 1001⟩
theorem e66_standard_6_ok : EntAt Tryd.prog 66 e66_standard_6 := entOk_run (by kernel_rfl) smSdok (fuel := 60) (by kernel_rfl) (by kernel_rfl) (fun t => by kernel_rfl) (by kernel_rfl)
noncomputable def e68_standard : Ent := ⟨[], [(.str 8 8319381538418553444)], (.tuple [(.int .i64 11700), (.bool true)]), [], 1001⟩
theorem e68_standard_ok : EntAt Tryd.prog 68 e68_standard := entOk_run (by kernel_rfl) smSdok (fuel := 60) (by kernel_rfl) (by kernel_rfl) (fun t => by kernel_rfl) (by kernel_rfl)
noncomputable def e66_top_m1 : Ent := ⟨[], [(.str 3 7630704), (.int .i64 (-1))], (.tuple [(.int .i64 0), (.bool false)]), [], 1001⟩
theorem e66_top_m1_ok : EntAt Tryd.prog 66 e66_top_m1 := entOk_run (by kernel_rfl) smSdok (fuel := 60) (by kernel_rfl) (by kernel_rfl) (fun t => by kernel_rfl) (by kernel_rfl)
noncomputable def e66_top_0 : Ent := ⟨[], [(.str 3 7630704), (.int .i64 0)], (.tuple [(.int .i64 10500), (.bool true)]), [], 1001⟩
theorem e66_top_0_ok : EntAt Tryd.prog 66 e66_top_0 := entOk_run (by kernel_rfl) smSdok (fuel := 60) (by kernel_rfl) (by kernel_rfl) (fun t => by kernel_rfl) (by kernel_rfl)
noncomputable def e66_top_1 : Ent := ⟨[], [(.str 3 7630704), (.int .i64 1)], (.tuple [(.int .i64 42300), (.bool true)]), [], 1001⟩
theorem e66_top_1_ok : EntAt Tryd.prog 66 e66_top_1 := entOk_run (by kernel_rfl) smSdok (fuel := 60) (by kernel_rfl) (by kernel_rfl) (fun t => by kernel_rfl) (by kernel_rfl)
noncomputable def e66_top_2 : Ent := ⟨[], [(.str 3 7630704), (.int .i64 2)], (.tuple [(.int .i64 95400), (.bool true)]), [], 1001⟩
theorem e66_top_2_ok : EntAt Tryd.prog 66 e66_top_2 := entOk_run (by kernel_rfl) smSdok (fuel := 60) (by kernel_rfl) (by kernel_rfl) (fun t => by kernel_rfl) (by kernel_rfl)
noncomputable def e66_top_3 : Ent := ⟨[], [(.str 3 7630704), (.int .i64 3)], (.tuple [(.int .i64 19000), (.bool true)]), [], 1001⟩
theorem e66_top_3_ok : EntAt Tryd.prog 66 e66_top_3 := entOk_run (by kernel_rfl) smSdok (fuel := 60) (by kernel_rfl) (by kernel_rfl) (fun t => by kernel_rfl) (by kernel_rfl)
noncomputable def e66_top_4 : Ent := ⟨[], [(.str 3 7630704), (.int .i64 4)], (.tuple [(.int .i64 74100), (.bool true)]), [], 1001⟩
theorem e66_top_4_ok : EntAt Tryd.prog 66 e66_top_4 := entOk_run (by kernel_rfl) smSdok (fuel := 60) (by kernel_rfl) (by kernel_rfl) (fun t => by kernel_rfl) (by kernel_rfl)
noncomputable def e66_top_5 : Ent := ⟨[], [(.str 3 7630704), (.int .i64 5)], (.tuple [(.int .i64 159100), (.bool true)]), [], 1001⟩
theorem e66_top_5_ok : EntAt Tryd.prog 66 e66_top_5 := entOk_run (by kernel_rfl) smSdok (fuel := 60) (by kernel_rfl) (by kernel_rfl) (fun t => by kernel_rfl) (by kernel_rfl)
noncomputable def e66_top_6 : Ent := ⟨[], [(.str 3 7630704), (.int .i64 6)], (.tuple [(.int .i64 0), (.bool false)]), [], 1001⟩
theorem e66_top_6_ok : EntAt Tryd.prog 66 e66_top_6 := entOk_run (by kernel_rfl) smSdok (fuel := 60) (by kernel_rfl) (by kernel_rfl) (fun t => by kernel_rfl) (by kernel_rfl)
noncomputable def e68_top : Ent := ⟨[], [(.str 3 7630704)], (.tuple [(.int .i64 400400), (.bool true)]), [], 1001⟩
theorem e68_top_ok : EntAt Tryd.prog 68 e68_top := entOk_run (by kernel_rfl) smSdok (fuel := 60) (by kernel_rfl) (by kernel_rfl) (fun t => by kernel_rfl) (by kernel_rfl)
noncomputable def e66_rate_m1 : Ent := ⟨[], [(.str 4 1918989413), (.int .i64 (-1))], (.tuple [(.int .i64 0), (.bool false)]), [], 1001⟩
theorem e66_rate_m1_ok : EntAt Tryd.prog 66 e66_rate_m1 := entOk_run (by kernel_rfl) smSdok (fuel := 60) (by kernel_rfl) (by kernel_rfl) (fun t => by kernel_rfl) (by kernel_rfl)
noncomputable def e66_rate_0 : Ent := ⟨[], [(.str 4 1918989413), (.int .i64 0)], (.tuple [(.int .i64 950), (.bool true)]), [], 1001⟩
theorem e66_rate_0_ok : EntAt Tryd.prog 66 e66_rate_0 := entOk_run (by kernel_rfl) smSdok (fuel := 60) (by kernel_rfl) (by kernel_rfl) (fun t => by kernel_rfl) (by kernel_rfl)
noncomputable def e66_rate_1 : Ent := ⟨[], [(.str 4 1918989413), (.int .i64 1)], (.tuple [(.int .i64 1500), (.bool true)]), [], 1001⟩
theorem e66_rate_1_ok : EntAt Tryd.prog 66 e66_rate_1 := entOk_run (by kernel_rfl) smSdok (fuel := 60) (by kernel_rfl) (by kernel_rfl) (fun t => by kernel_rfl) (by kernel_rfl)
noncomputable def e66_rate_2 : Ent := ⟨[], [(.str 4 1918989413), (.int .i64 2)], (.tuple [(.int .i64 2800), (.bool true)]), [], 1001⟩
theorem e66_rate_2_ok : EntAt Tryd.prog 66 e66_rate_2 := entOk_run (by kernel_rfl) smSdok (fuel := 60) (by kernel_rfl) (by kernel_rfl) (fun t => by kernel_rfl) (by kernel_rfl)
noncomputable def e66_rate_3 : Ent := ⟨[], [(.str 4 1918989413), (.int .i64 3)], (.tuple [(.int .i64 3960), (.bool true)]), [], 1001⟩
theorem e66_rate_3_ok : EntAt Tryd.prog 66 e66_rate_3 := entOk_run (by kernel_rfl) smSdok (fuel := 60) (by kernel_rfl) (by kernel_rfl) (fun t => by kernel_rfl) (by kernel_rfl)
noncomputable def e66_rate_4 : Ent := ⟨[], [(.str 4 1918989413), (.int .i64 4)], (.tuple [(.int .i64 0), (.bool false)]), [], 1001⟩
theorem e66_rate_4_ok : EntAt Tryd.prog 66 e66_rate_4 := entOk_run (by kernel_rfl) smSdok (fuel := 60) (by kernel_rfl) (by kernel_rfl) (fun t => by kernel_rfl) (by kernel_rfl)
noncomputable def e66_rate_5 : Ent := ⟨[], [(.str 4 1918989413), (.int .i64 5)], (.tuple [(.int .i64 0), (.bool false)]), [], 1001⟩
theorem e66_rate_5_ok : EntAt Tryd.prog 66 e66_rate_5 := entOk_run (by kernel_rfl) smSdok (fuel := 60) (by kernel_rfl) (by kernel_rfl) (fun t => by kernel_rfl) (by kernel_rfl)
noncomputable def e66_rate_6 : Ent := ⟨[], [(.str 4 1918989413), (.int .i64 6)], (.tuple [(.int .i64 0), (.bool false)]), [], 1001⟩
theorem e66_rate_6_ok : EntAt Tryd.prog 66 e66_rate_6 := entOk_run (by kernel_rfl) smSdok (fuel := 60) (by kernel_rfl) (by kernel_rfl) (fun t => by kernel_rfl) (by kernel_rfl)
noncomputable def e68_rate : Ent := ⟨[], [(.str 4 1918989413)], (.tuple [(.int .i64 9210), (.bool true)]), [], 1001⟩
theorem e68_rate_ok : EntAt Tryd.prog 68 e68_rate := entOk_run (by kernel_rfl) smSdok (fuel := 60) (by kernel_rfl) (by kernel_rfl) (fun t => by kernel_rfl) (by kernel_rfl)
noncomputable def e66_credit_m1 : Ent := ⟨[], [(.str 6 109342978500980), (.int .i64 (-1))], (.tuple [(.int .i64 0), (.bool false)]), [], 1001⟩
theorem e66_credit_m1_ok : EntAt Tryd.prog 66 e66_credit_m1 := entOk_run (by kernel_rfl) smSdok (fuel := 60) (by kernel_rfl) (by kernel_rfl) (fun t => by kernel_rfl) (by kernel_rfl)
noncomputable def e66_credit_0 : Ent := ⟨[], [(.str 6 109342978500980), (.int .i64 0)], (.tuple [(.int .i64 600), (.bool true)]), [], 1001⟩
theorem e66_credit_0_ok : EntAt Tryd.prog 66 e66_credit_0 := entOk_run (by kernel_rfl) smSdok (fuel := 60) (by kernel_rfl) (by kernel_rfl) (fun t => by kernel_rfl) (by kernel_rfl)
noncomputable def e66_credit_1 : Ent := ⟨[], [(.str 6 109342978500980), (.int .i64 1)], (.tuple [(.int .i64 1050), (.bool true)]), [], 1001⟩
theorem e66_credit_1_ok : EntAt Tryd.prog 66 e66_credit_1 := entOk_run (by kernel_rfl) smSdok (fuel := 60) (by kernel_rfl) (by kernel_rfl) (fun t => by kernel_rfl) (by kernel_rfl)
noncomputable def e66_credit_2 : Ent := ⟨[], [(.str 6 109342978500980), (.int .i64 2)], (.tuple [(.int .i64 0), (.bool false)]), [], 1001⟩
theorem e66_credit_2_ok : EntAt Tryd.prog 66 e66_credit_2 := entOk_run (by kernel_rfl) smSdok (fuel := 60) (by kernel_rfl) (by kernel_rfl) (fun t => by kernel_rfl) (by kernel_rfl)
noncomputable def e66_credit_3 : Ent := ⟨[], [(.str 6 109342978500980), (.int .i64 3)], (.tuple [(.int .i64 0), (.bool false)]), [], 1001⟩
theorem e66_credit_3_ok : EntAt Tryd.prog 66 e66_credit_3 := entOk_run (by kernel_rfl) smSdok (fuel := 60) (by kernel_rfl) (by kernel_rfl) (fun t => by kernel_rfl) (by kernel_rfl)
noncomputable def e66_credit_4 : Ent := ⟨[], [(.str 6 109342978500980), (.int .i64 4)], (.tuple [(.int .i64 0), (.bool false)]), [], 1001⟩
theorem e66_credit_4_ok : EntAt Tryd.prog 66 e66_credit_4 := entOk_run (by kernel_rfl) smSdok (fuel := 60) (by kernel_rfl) (by kernel_rfl) (fun t => by kernel_rfl) (by kernel_rfl)
noncomputable def e66_credit_5 : Ent := ⟨[], [(.str 6 109342978500980), (.int .i64 5)], (.tuple [(.int .i64 0), (.bool false)]), [], 1001⟩
theorem e66_credit_5_ok : EntAt Tryd.prog 66 e66_credit_5 := entOk_run (by kernel_rfl) smSdok (fuel := 60) (by kernel_rfl) (by kernel_rfl) (fun t => by kernel_rfl) (by kernel_rfl)
noncomputable def e66_credit_6 : Ent := ⟨[], [(.str 6 109342978500980), (.int .i64 6)], (.tuple [(.int .i64 0), (.bool false)]), [], 1001⟩
theorem e66_credit_6_ok : EntAt Tryd.prog 66 e66_credit_6 := entOk_run (by kernel_rfl) smSdok (fuel := 60) (by kernel_rfl) (by kernel_rfl) (fun t => by kernel_rfl) (by kernel_rfl)
noncomputable def e68_credit : Ent := ⟨[], [(.str 6 109342978500980)], (.tuple [(.int .i64 1650), (.bool true)]), [], 1001⟩
theorem e68_credit_ok : EntAt Tryd.prog 68 e68_credit := entOk_run (by kernel_rfl) smSdok (fuel := 60) (by kernel_rfl) (by kernel_rfl) (fun t => by kernel_rfl) (by kernel_rfl)
noncomputable def e66_phase_m1 : Ent := ⟨[], [(.str 5 482787554149), (.int .i64 (-1))], (.tuple [(.int .i64 0), (.bool false)]), [], 1001⟩
theorem e66_phase_m1_ok : EntAt Tryd.prog 66 e66_phase_m1 := entOk_run (by kernel_rfl) smSdok (fuel := 60) (by kernel_rfl) (by kernel_rfl) (fun t => by kernel_rfl) (by kernel_rfl)
noncomputable def e66_phase_0 : Ent := ⟨[], [(.str 5 482787554149), (.int .i64 0)], (.tuple [(.int .i64 62000), (.bool true)]), [], 1001⟩
theorem e66_phase_0_ok : EntAt Tryd.prog 66 e66_phase_0 := entOk_run (by kernel_rfl) smSdok (fuel := 60) (by kernel_rfl) (by kernel_rfl) (fun t => by kernel_rfl) (by kernel_rfl)
noncomputable def e66_phase_1 : Ent := ⟨[], [(.str 5 482787554149), (.int .i64 1)], (.tuple [(.int .i64 0), (.bool false)]), [], 1001⟩
theorem e66_phase_1_ok : EntAt Tryd.prog 66 e66_phase_1 := entOk_run (by kernel_rfl) smSdok (fuel := 60) (by kernel_rfl) (by kernel_rfl) (fun t => by kernel_rfl) (by kernel_rfl)
noncomputable def e66_phase_2 : Ent := ⟨[], [(.str 5 482787554149), (.int .i64 2)], (.tuple [(.int .i64 0), (.bool false)]), [], 1001⟩
theorem e66_phase_2_ok : EntAt Tryd.prog 66 e66_phase_2 := entOk_run (by kernel_rfl) smSdok (fuel := 60) (by kernel_rfl) (by kernel_rfl) (fun t => by kernel_rfl) (by kernel_rfl)
noncomputable def e66_phase_3 : Ent := ⟨[], [(.str 5 482787554149), (.int .i64 3)], (.tuple [(.int .i64 0), (.bool false)]), [], 1001⟩
theorem e66_phase_3_ok : EntAt Tryd.prog 66 e66_phase_3 := entOk_run (by kernel_rfl) smSdok (fuel := 60) (by kernel_rfl) (by kernel_rfl) (fun t => by kernel_rfl) (by kernel_rfl)
noncomputable def e66_phase_4 : Ent := ⟨[], [(.str 5 482787554149), (.int .i64 4)], (.tuple [(.int .i64 0), (.bool false)]), [], 1001⟩
theorem e66_phase_4_ok : EntAt Tryd.prog 66 e66_phase_4 := entOk_run (by kernel_rfl) smSdok (fuel := 60) (by kernel_rfl) (by kernel_rfl) (fun t => by kernel_rfl) (by kernel_rfl)
noncomputable def e66_phase_5 : Ent := ⟨[], [(.str 5 482787554149), (.int .i64 5)], (.tuple [(.int .i64 0), (.bool false)]), [], 1001⟩
theorem e66_phase_5_ok : EntAt Tryd.prog 66 e66_phase_5 := entOk_run (by kernel_rfl) smSdok (fuel := 60) (by kernel_rfl) (by kernel_rfl) (fun t => by kernel_rfl) (by kernel_rfl)
noncomputable def e66_phase_6 : Ent := ⟨[], [(.str 5 482787554149), (.int .i64 6)], (.tuple [(.int .i64 0), (.bool false)]), [], 1001⟩
theorem e66_phase_6_ok : EntAt Tryd.prog 66 e66_phase_6 := entOk_run (by kernel_rfl) smSdok (fuel := 60) (by kernel_rfl) (by kernel_rfl) (fun t => by kernel_rfl) (by kernel_rfl)
noncomputable def e68_phase : Ent := ⟨[], [(.str 5 482787554149)], (.tuple [(.int .i64 62000), (.bool true)]), [], 1001⟩
theorem e68_phase_ok : EntAt Tryd.prog 68 e68_phase := entOk_run (by kernel_rfl) smSdok (fuel := 60) (by kernel_rfl) (by kernel_rfl) (fun t => by kernel_rfl) (by kernel_rfl)
noncomputable def e69_m1 : Ent := ⟨[(6, [(.int .i64 550), (.int .i64 975)])], [(.int .i64 (-1))], (.tuple [(.int .i64 0), (.bool false)]), [], 1076⟩
theorem e69_m1_ok : EntAt Tryd.prog 69 e69_m1 := entOk_run (by kernel_rfl) smSdok (fuel := 60) (by kernel_rfl) (by kernel_rfl) (fun t => by kernel_rfl) (by kernel_rfl)
noncomputable def e70_m1 : Ent := ⟨[], [(.int .i64 (-1))], (.tuple [(.int .i64 0), (.bool false)]), [], 1001⟩
theorem e70_m1_ok : EntAt Tryd.prog 70 e70_m1 := entOk_run (by kernel_rfl) smSdok (fuel := 60) (by kernel_rfl) (by kernel_rfl) (fun t => by kernel_rfl) (by kernel_rfl)
noncomputable def e69_0 : Ent := ⟨[(6, [(.int .i64 550), (.int .i64 975)])], [(.int .i64 0)], (.tuple [(.int .i64 50), (.bool true)]), [], 1079⟩
theorem e69_0_ok : EntAt Tryd.prog 69 e69_0 := entOk_run (by kernel_rfl) smSdok (fuel := 60) (by kernel_rfl) (by kernel_rfl) (fun t => by kernel_rfl) (by kernel_rfl)
noncomputable def e70_0 : Ent := ⟨[], [(.int .i64 0)], (.tuple [(.int .i64 50), (.bool true)]), [], 1001⟩
theorem e70_0_ok : EntAt Tryd.prog 70 e70_0 := entOk_run (by kernel_rfl) smSdok (fuel := 60) (by kernel_rfl) (by kernel_rfl) (fun t => by kernel_rfl) (by kernel_rfl)
noncomputable def e69_1 : Ent := ⟨[(6, [(.int .i64 550), (.int .i64 975)])], [(.int .i64 1)], (.tuple [(.int .i64 75), (.bool true)]), [], 1079⟩
theorem e69_1_ok : EntAt Tryd.prog 69 e69_1 := entOk_run (by kernel_rfl) smSdok (fuel := 60) (by kernel_rfl) (by kernel_rfl) (fun t => by kernel_rfl) (by kernel_rfl)
noncomputable def e70_1 : Ent := ⟨[], [(.int .i64 1)], (.tuple [(.int .i64 75), (.bool true)]), [], 1001⟩
theorem e70_1_ok : EntAt Tryd.prog 70 e70_1 := entOk_run (by kernel_rfl) smSdok (fuel := 60) (by kernel_rfl) (by kernel_rfl) (fun t => by kernel_rfl) (by kernel_rfl)
noncomputable def e69_2 : Ent := ⟨[(6, [(.int .i64 550), (.int .i64 975)])], [(.int .i64 2)], (.tuple [(.int .i64 0), (.bool false)]), [], 1076⟩
theorem e69_2_ok : EntAt Tryd.prog 69 e69_2 := entOk_run (by kernel_rfl) smSdok (fuel := 60) (by kernel_rfl) (by kernel_rfl) (fun t => by kernel_rfl) (by kernel_rfl)
noncomputable def e70_2 : Ent := ⟨[], [(.int .i64 2)], (.tuple [(.int .i64 0), (.bool false)]), [], 1001⟩
theorem e70_2_ok : EntAt Tryd.prog 70 e70_2 := entOk_run (by kernel_rfl) smSdok (fuel := 60) (by kernel_rfl) (by kernel_rfl) (fun t => by kernel_rfl) (by kernel_rfl)
noncomputable def e69_3 : Ent := ⟨[(6, [(.int .i64 550), (.int .i64 975)])], [(.int .i64 3)], (.tuple [(.int .i64 0), (.bool false)]), [], 1076⟩
theorem e69_3_ok : EntAt Tryd.prog 69 e69_3 := entOk_run (by kernel_rfl) smSdok (fuel := 60) (by kernel_rfl) (by kernel_rfl) (fun t => by kernel_rfl) (by kernel_rfl)
noncomputable def e70_3 : Ent := ⟨[], [(.int .i64 3)], (.tuple [(.int .i64 0), (.bool false)]), [], 1001⟩
theorem e70_3_ok : EntAt Tryd.prog 70 e70_3 := entOk_run (by kernel_rfl) smSdok (fuel := 60) (by kernel_rfl) (by kernel_rfl) (fun t => by kernel_rfl) (by kernel_rfl)
noncomputable def e69_4 : Ent := ⟨[(6, [(.int .i64 550), (.int .i64 975)])], [(.int .i64 4)], (.tuple [(.int .i64 0), (.bool false)]), [], 1076⟩
theorem e69_4_ok : EntAt Tryd.prog 69 e69_4 := entOk_run (by kernel_rfl) smSdok (fuel := 60) (by kernel_rfl) (by kernel_rfl) (fun t => by kernel_rfl) (by kernel_rfl)
noncomputable def e70_4 : Ent := ⟨[], [(.int .i64 4)], (.tuple [(.int .i64 0), (.bool false)]), [], 1001⟩
theorem e70_4_ok : EntAt Tryd.prog 70 e70_4 := entOk_run (by kernel_rfl) smSdok (fuel := 60) (by kernel_rfl) (by kernel_rfl) (fun t => by kernel_rfl) (by kernel_rfl)
noncomputable def e69_5 : Ent := ⟨[(6, [(.int .i64 550), (.int .i64 975)])], [(.int .i64 5)], (.tuple [(.int .i64 0), (.bool false)]), [], 1076⟩
theorem e69_5_ok : EntAt Tryd.prog 69 e69_5 := entOk_run (by kernel_rfl) smSdok (fuel := 60) (by kernel_rfl) (by kernel_rfl) (fun t => by kernel_rfl) (by kernel_rfl)
noncomputable def e70_5 : Ent := ⟨[], [(.int .i64 5)], (.tuple [(.int .i64 0), (.bool false)]), [], 1001⟩
theorem e70_5_ok : EntAt Tryd.prog 70 e70_5 := entOk_run (by kernel_rfl) smSdok (fuel := 60) (by kernel_rfl) (by kernel_rfl) (fun t => by kernel_rfl) (by kernel_rfl)
noncomputable def e69_6 : Ent := ⟨[(6, [(.int .i64 550), (.int .i64 975)])], [(.int .i64 6)], (.tuple [(.int .i64 0), (.bool false)]), [], 1076⟩
theorem e69_6_ok : EntAt Tryd.prog 69 e69_6 := entOk_run (by kernel_rfl) smSdok (fuel := 60) (by kernel_rfl) (by kernel_rfl) (fun t => by kernel_rfl) (by kernel_rfl)
noncomputable def e70_6 : Ent := ⟨[], [(.int .i64 6)], (.tuple [(.int .i64 0), (.bool false)]), [], 1001⟩
theorem e70_6_ok : EntAt Tryd.prog 70 e70_6 := entOk_run (by kernel_rfl) smSdok (fuel := 60) (by kernel_rfl) (by kernel_rfl) (fun t => by kernel_rfl) (by kernel_rfl)
noncomputable def smSe : Sm := (.node none (.node none (.node none (.node (some [e21]) .leaf .leaf .leaf .leaf) (.node (some [e37_true, e37_false]) .leaf .leaf .leaf .leaf) (.node (some [e53]) .leaf .leaf .leaf .leaf) (.node (some [e69_m1, e69_0, e69_1, e69_2, e69_3, e69_4, e69_5, e69_6]) .leaf .leaf .leaf .leaf)) (.node none (.node (some [e25]) .leaf .leaf .leaf .leaf) (.node (some [e41]) (.node (some [e105]) .leaf .leaf .leaf .leaf) .leaf .leaf .leaf) .leaf (.node (some [e73]) .leaf .leaf .leaf .leaf)) (.node (some [e13]) (.node (some [e29]) .leaf .leaf .leaf .leaf) .leaf (.node (some [e61]) .leaf .leaf .leaf .leaf) (.node (some [e77]) .leaf .leaf .leaf .leaf)) (.node none (.node (some [e33]) .leaf .leaf .leaf .leaf) (.node (some [e49]) .leaf .leaf .leaf .leaf) (.node (some [e65_cpi_m1, e65_cpi_0, e65_cpi_1, e65_cpi_2, e65_cpi_3, e65_cpi_4, e65_cpi_5, e65_cpi_6, e65_factor_m1, e65_factor_0, e65_factor_1, e65_factor_2, e65_factor_3, e65_factor_4, e65_factor_5, e65_factor_6, e65_standard_m1, e65_standard_0, e65_standard_1, e65_standard_2, e65_standard_3, e65_standard_4, e65_standard_5, e65_standard_6, e65_top_m1, e65_top_0, e65_top_1, e65_top_2, e65_top_3, e65_top_4, e65_top_5, e65_top_6, e65_rate_m1, e65_rate_0, e65_rate_1, e65_rate_2, e65_rate_3, e65_rate_4, e65_rate_5, e65_rate_6, e65_credit_m1, e65_credit_0, e65_credit_1, e65_credit_2, e65_credit_3, e65_credit_4, e65_credit_5, e65_credit_6, e65_phase_m1, e65_phase_0, e65_phase_1, e65_phase_2, e65_phase_3, e65_phase_4, e65_phase_5, e65_phase_6]) .leaf .leaf .leaf .leaf) .leaf)) (.node none (.node none (.node (some [e22]) .leaf .leaf .leaf .leaf) (.node (some [e38]) (.node (some [e102]) .leaf .leaf .leaf .leaf) .leaf .leaf .leaf) (.node (some [e54]) .leaf .leaf .leaf .leaf) (.node (some [e70_m1, e70_0, e70_1, e70_2, e70_3, e70_4, e70_5, e70_6]) .leaf .leaf .leaf .leaf)) (.node none (.node (some [e26]) .leaf .leaf .leaf .leaf) (.node none (.node (some [e106]) .leaf .leaf .leaf .leaf) .leaf .leaf .leaf) .leaf (.node (some [e74]) .leaf .leaf .leaf .leaf)) (.node none .leaf .leaf (.node (some [e62]) .leaf .leaf .leaf .leaf) .leaf) (.node none .leaf (.node (some [e50]) .leaf .leaf .leaf .leaf) (.node (some [e66_cpi_m1, e66_cpi_0, e66_cpi_1, e66_cpi_2, e66_cpi_3, e66_cpi_4, e66_cpi_5, e66_cpi_6, e66_factor_m1, e66_factor_0, e66_factor_1, e66_factor_2, e66_factor_3, e66_factor_4, e66_factor_5, e66_factor_6, e66_standard_m1, e66_standard_0, e66_standard_1, e66_standard_2, e66_standard_3, e66_standard_4, e66_standard_5, e66_standard_6, e66_top_m1, e66_top_0, e66_top_1, e66_top_2, e66_top_3, e66_top_4, e66_top_5, e66_top_6, e66_rate_m1, e66_rate_0, e66_rate_1, e66_rate_2, e66_rate_3, e66_rate_4, e66_rate_5, e66_rate_6, e66_credit_m1, e66_credit_0, e66_credit_1, e66_credit_2, e66_credit_3, e66_credit_4, e66_credit_5, e66_credit_6, e66_phase_m1, e66_phase_0, e66_phase_1, e66_phase_2, e66_phase_3, e66_phase_4, e66_phase_5, e66_phase_6]) .leaf .leaf .leaf .leaf) .leaf)) (.node none (.node none .leaf (.node (some [e39]) .leaf .leaf .leaf .leaf) (.node (some [e55]) .leaf .leaf .leaf .leaf) .leaf) (.node none (.node (some [e27]) .leaf .leaf .leaf .leaf) .leaf (.node (some [e59]) (.node (some [e123]) .leaf .leaf .leaf .leaf) .leaf .leaf .leaf) (.node (some [e75]) .leaf .leaf .leaf .leaf)) (.node none (.node (some [e31]) .leaf .leaf .leaf .leaf) .leaf (.node (some [e63]) .leaf .leaf .leaf .leaf) .leaf) (.node none .leaf (.node (some [e51]) .leaf .leaf .leaf .leaf) (.node (some [e67_cpi, e67_factor, e67_standard, e67_top, e67_rate, e67_credit, e67_phase]) .leaf .leaf .leaf .leaf) .leaf)) (.node none (.node none (.node (some [e24]) .leaf .leaf .leaf .leaf) (.node (some [e40]) .leaf .leaf .leaf .leaf) (.node (some [e56]) .leaf .leaf .leaf .leaf) (.node (some [e72]) .leaf .leaf .leaf .leaf)) (.node none (.node (some [e28]) .leaf .leaf .leaf .leaf) .leaf (.node (some [e60_true, e60_false]) .leaf .leaf .leaf .leaf) (.node (some [e76]) .leaf .leaf .leaf .leaf)) (.node none (.node (some [e32]) .leaf .leaf .leaf .leaf) (.node (some [e48]) .leaf .leaf .leaf .leaf) .leaf .leaf) (.node none (.node (some [e36_true, e36_false]) .leaf .leaf .leaf .leaf) .leaf (.node (some [e68_cpi, e68_factor, e68_standard, e68_top, e68_rate, e68_credit, e68_phase]) .leaf .leaf .leaf .leaf) .leaf)))
theorem smSeok : SmOk Tryd.prog smSe := by
  have h : smSe = smTr [(21, [e21]), (22, [e22]), (24, [e24]), (25, [e25]), (38, [e38]), (39, [e39]), (40, [e40]), (41, [e41]), (48, [e48]), (49, [e49]), (59, [e59]), (62, [e62]), (63, [e63]), (72, [e72]), (73, [e73]), (56, [e56]), (77, [e77]), (102, [e102]), (105, [e105]), (123, [e123]), (36, [e36_true, e36_false]), (37, [e37_true, e37_false]), (60, [e60_true, e60_false]), (27, [e27]), (29, [e29]), (32, [e32]), (33, [e33]), (76, [e76]), (61, [e61]), (55, [e55]), (26, [e26]), (28, [e28]), (54, [e54]), (13, [e13]), (31, [e31]), (53, [e53]), (75, [e75]), (74, [e74]), (106, [e106]), (50, [e50]), (51, [e51]), (65, [e65_cpi_m1, e65_cpi_0, e65_cpi_1, e65_cpi_2, e65_cpi_3, e65_cpi_4, e65_cpi_5, e65_cpi_6, e65_factor_m1, e65_factor_0, e65_factor_1, e65_factor_2, e65_factor_3, e65_factor_4, e65_factor_5, e65_factor_6, e65_standard_m1, e65_standard_0, e65_standard_1, e65_standard_2, e65_standard_3, e65_standard_4, e65_standard_5, e65_standard_6, e65_top_m1, e65_top_0, e65_top_1, e65_top_2, e65_top_3, e65_top_4, e65_top_5, e65_top_6, e65_rate_m1, e65_rate_0, e65_rate_1, e65_rate_2, e65_rate_3, e65_rate_4, e65_rate_5, e65_rate_6, e65_credit_m1, e65_credit_0, e65_credit_1, e65_credit_2, e65_credit_3, e65_credit_4, e65_credit_5, e65_credit_6, e65_phase_m1, e65_phase_0, e65_phase_1, e65_phase_2, e65_phase_3, e65_phase_4, e65_phase_5, e65_phase_6]), (67, [e67_cpi, e67_factor, e67_standard, e67_top, e67_rate, e67_credit, e67_phase]), (66, [e66_cpi_m1, e66_cpi_0, e66_cpi_1, e66_cpi_2, e66_cpi_3, e66_cpi_4, e66_cpi_5, e66_cpi_6, e66_factor_m1, e66_factor_0, e66_factor_1, e66_factor_2, e66_factor_3, e66_factor_4, e66_factor_5, e66_factor_6, e66_standard_m1, e66_standard_0, e66_standard_1, e66_standard_2, e66_standard_3, e66_standard_4, e66_standard_5, e66_standard_6, e66_top_m1, e66_top_0, e66_top_1, e66_top_2, e66_top_3, e66_top_4, e66_top_5, e66_top_6, e66_rate_m1, e66_rate_0, e66_rate_1, e66_rate_2, e66_rate_3, e66_rate_4, e66_rate_5, e66_rate_6, e66_credit_m1, e66_credit_0, e66_credit_1, e66_credit_2, e66_credit_3, e66_credit_4, e66_credit_5, e66_credit_6, e66_phase_m1, e66_phase_0, e66_phase_1, e66_phase_2, e66_phase_3, e66_phase_4, e66_phase_5, e66_phase_6]), (68, [e68_cpi, e68_factor, e68_standard, e68_top, e68_rate, e68_credit, e68_phase]), (69, [e69_m1, e69_0, e69_1, e69_2, e69_3, e69_4, e69_5, e69_6]), (70, [e70_m1, e70_0, e70_1, e70_2, e70_3, e70_4, e70_5, e70_6])] := by kernel_rfl
  rw [h]
  refine smOk_list (by kernel_rfl) ?_
  refine List.forall_mem_cons.2 ⟨List.forall_mem_cons.2 ⟨e21_ok, fun e h => nomatch h⟩, ?_⟩
  refine List.forall_mem_cons.2 ⟨List.forall_mem_cons.2 ⟨e22_ok, fun e h => nomatch h⟩, ?_⟩
  refine List.forall_mem_cons.2 ⟨List.forall_mem_cons.2 ⟨e24_ok, fun e h => nomatch h⟩, ?_⟩
  refine List.forall_mem_cons.2 ⟨List.forall_mem_cons.2 ⟨e25_ok, fun e h => nomatch h⟩, ?_⟩
  refine List.forall_mem_cons.2 ⟨List.forall_mem_cons.2 ⟨e38_ok, fun e h => nomatch h⟩, ?_⟩
  refine List.forall_mem_cons.2 ⟨List.forall_mem_cons.2 ⟨e39_ok, fun e h => nomatch h⟩, ?_⟩
  refine List.forall_mem_cons.2 ⟨List.forall_mem_cons.2 ⟨e40_ok, fun e h => nomatch h⟩, ?_⟩
  refine List.forall_mem_cons.2 ⟨List.forall_mem_cons.2 ⟨e41_ok, fun e h => nomatch h⟩, ?_⟩
  refine List.forall_mem_cons.2 ⟨List.forall_mem_cons.2 ⟨e48_ok, fun e h => nomatch h⟩, ?_⟩
  refine List.forall_mem_cons.2 ⟨List.forall_mem_cons.2 ⟨e49_ok, fun e h => nomatch h⟩, ?_⟩
  refine List.forall_mem_cons.2 ⟨List.forall_mem_cons.2 ⟨e59_ok, fun e h => nomatch h⟩, ?_⟩
  refine List.forall_mem_cons.2 ⟨List.forall_mem_cons.2 ⟨e62_ok, fun e h => nomatch h⟩, ?_⟩
  refine List.forall_mem_cons.2 ⟨List.forall_mem_cons.2 ⟨e63_ok, fun e h => nomatch h⟩, ?_⟩
  refine List.forall_mem_cons.2 ⟨List.forall_mem_cons.2 ⟨e72_ok, fun e h => nomatch h⟩, ?_⟩
  refine List.forall_mem_cons.2 ⟨List.forall_mem_cons.2 ⟨e73_ok, fun e h => nomatch h⟩, ?_⟩
  refine List.forall_mem_cons.2 ⟨List.forall_mem_cons.2 ⟨e56_ok, fun e h => nomatch h⟩, ?_⟩
  refine List.forall_mem_cons.2 ⟨List.forall_mem_cons.2 ⟨e77_ok, fun e h => nomatch h⟩, ?_⟩
  refine List.forall_mem_cons.2 ⟨List.forall_mem_cons.2 ⟨e102_ok, fun e h => nomatch h⟩, ?_⟩
  refine List.forall_mem_cons.2 ⟨List.forall_mem_cons.2 ⟨e105_ok, fun e h => nomatch h⟩, ?_⟩
  refine List.forall_mem_cons.2 ⟨List.forall_mem_cons.2 ⟨e123_ok, fun e h => nomatch h⟩, ?_⟩
  refine List.forall_mem_cons.2 ⟨List.forall_mem_cons.2 ⟨e36_true_ok, List.forall_mem_cons.2 ⟨e36_false_ok, fun e h => nomatch h⟩⟩, ?_⟩
  refine List.forall_mem_cons.2 ⟨List.forall_mem_cons.2 ⟨e37_true_ok, List.forall_mem_cons.2 ⟨e37_false_ok, fun e h => nomatch h⟩⟩, ?_⟩
  refine List.forall_mem_cons.2 ⟨List.forall_mem_cons.2 ⟨e60_true_ok, List.forall_mem_cons.2 ⟨e60_false_ok, fun e h => nomatch h⟩⟩, ?_⟩
  refine List.forall_mem_cons.2 ⟨List.forall_mem_cons.2 ⟨e27_ok, fun e h => nomatch h⟩, ?_⟩
  refine List.forall_mem_cons.2 ⟨List.forall_mem_cons.2 ⟨e29_ok, fun e h => nomatch h⟩, ?_⟩
  refine List.forall_mem_cons.2 ⟨List.forall_mem_cons.2 ⟨e32_ok, fun e h => nomatch h⟩, ?_⟩
  refine List.forall_mem_cons.2 ⟨List.forall_mem_cons.2 ⟨e33_ok, fun e h => nomatch h⟩, ?_⟩
  refine List.forall_mem_cons.2 ⟨List.forall_mem_cons.2 ⟨e76_ok, fun e h => nomatch h⟩, ?_⟩
  refine List.forall_mem_cons.2 ⟨List.forall_mem_cons.2 ⟨e61_ok, fun e h => nomatch h⟩, ?_⟩
  refine List.forall_mem_cons.2 ⟨List.forall_mem_cons.2 ⟨e55_ok, fun e h => nomatch h⟩, ?_⟩
  refine List.forall_mem_cons.2 ⟨List.forall_mem_cons.2 ⟨e26_ok, fun e h => nomatch h⟩, ?_⟩
  refine List.forall_mem_cons.2 ⟨List.forall_mem_cons.2 ⟨e28_ok, fun e h => nomatch h⟩, ?_⟩
  refine List.forall_mem_cons.2 ⟨List.forall_mem_cons.2 ⟨e54_ok, fun e h => nomatch h⟩, ?_⟩
  refine List.forall_mem_cons.2 ⟨List.forall_mem_cons.2 ⟨e13_ok, fun e h => nomatch h⟩, ?_⟩
  refine List.forall_mem_cons.2 ⟨List.forall_mem_cons.2 ⟨e31_ok, fun e h => nomatch h⟩, ?_⟩
  refine List.forall_mem_cons.2 ⟨List.forall_mem_cons.2 ⟨e53_ok, fun e h => nomatch h⟩, ?_⟩
  refine List.forall_mem_cons.2 ⟨List.forall_mem_cons.2 ⟨e75_ok, fun e h => nomatch h⟩, ?_⟩
  refine List.forall_mem_cons.2 ⟨List.forall_mem_cons.2 ⟨e74_ok, fun e h => nomatch h⟩, ?_⟩
  refine List.forall_mem_cons.2 ⟨List.forall_mem_cons.2 ⟨e106_ok, fun e h => nomatch h⟩, ?_⟩
  refine List.forall_mem_cons.2 ⟨List.forall_mem_cons.2 ⟨e50_ok, fun e h => nomatch h⟩, ?_⟩
  refine List.forall_mem_cons.2 ⟨List.forall_mem_cons.2 ⟨e51_ok, fun e h => nomatch h⟩, ?_⟩
  refine List.forall_mem_cons.2 ⟨List.forall_mem_cons.2 ⟨e65_cpi_m1_ok, List.forall_mem_cons.2 ⟨e65_cpi_0_ok, List.forall_mem_cons.2 ⟨e65_cpi_1_ok, List.forall_mem_cons.2 ⟨e65_cpi_2_ok, List.forall_mem_cons.2 ⟨e65_cpi_3_ok, List.forall_mem_cons.2 ⟨e65_cpi_4_ok, List.forall_mem_cons.2 ⟨e65_cpi_5_ok, List.forall_mem_cons.2 ⟨e65_cpi_6_ok, List.forall_mem_cons.2 ⟨e65_factor_m1_ok, List.forall_mem_cons.2 ⟨e65_factor_0_ok, List.forall_mem_cons.2 ⟨e65_factor_1_ok, List.forall_mem_cons.2 ⟨e65_factor_2_ok, List.forall_mem_cons.2 ⟨e65_factor_3_ok, List.forall_mem_cons.2 ⟨e65_factor_4_ok, List.forall_mem_cons.2 ⟨e65_factor_5_ok, List.forall_mem_cons.2 ⟨e65_factor_6_ok, List.forall_mem_cons.2 ⟨e65_standard_m1_ok, List.forall_mem_cons.2 ⟨e65_standard_0_ok, List.forall_mem_cons.2 ⟨e65_standard_1_ok, List.forall_mem_cons.2 ⟨e65_standard_2_ok, List.forall_mem_cons.2 ⟨e65_standard_3_ok, List.forall_mem_cons.2 ⟨e65_standard_4_ok, List.forall_mem_cons.2 ⟨e65_standard_5_ok, List.forall_mem_cons.2 ⟨e65_standard_6_ok, List.forall_mem_cons.2 ⟨e65_top_m1_ok, List.forall_mem_cons.2 ⟨e65_top_0_ok, List.forall_mem_cons.2 ⟨e65_top_1_ok, List.forall_mem_cons.2 ⟨e65_top_2_ok, List.forall_mem_cons.2 ⟨e65_top_3_ok, List.forall_mem_cons.2 ⟨e65_top_4_ok, List.forall_mem_cons.2 ⟨e65_top_5_ok, List.forall_mem_cons.2 ⟨e65_top_6_ok, List.forall_mem_cons.2 ⟨e65_rate_m1_ok, List.forall_mem_cons.2 ⟨e65_rate_0_ok, List.forall_mem_cons.2 ⟨e65_rate_1_ok, List.forall_mem_cons.2 ⟨e65_rate_2_ok, List.forall_mem_cons.2 ⟨e65_rate_3_ok, List.forall_mem_cons.2 ⟨e65_rate_4_ok, List.forall_mem_cons.2 ⟨e65_rate_5_ok, List.forall_mem_cons.2 ⟨e65_rate_6_ok, List.forall_mem_cons.2 ⟨e65_credit_m1_ok, List.forall_mem_cons.2 ⟨e65_credit_0_ok, List.forall_mem_cons.2 ⟨e65_credit_1_ok, List.forall_mem_cons.2 ⟨e65_credit_2_ok, List.forall_mem_cons.2 ⟨e65_credit_3_ok, List.forall_mem_cons.2 ⟨e65_credit_4_ok, List.forall_mem_cons.2 ⟨e65_credit_5_ok, List.forall_mem_cons.2 ⟨e65_credit_6_ok, List.forall_mem_cons.2 ⟨e65_phase_m1_ok, List.forall_mem_cons.2 ⟨e65_phase_0_ok, List.forall_mem_cons.2 ⟨e65_phase_1_ok, List.forall_mem_cons.2 ⟨e65_phase_2_ok, List.forall_mem_cons.2 ⟨e65_phase_3_ok, List.forall_mem_cons.2 ⟨e65_phase_4_ok, List.forall_mem_cons.2 ⟨e65_phase_5_ok, List.forall_mem_cons.2 ⟨e65_phase_6_ok, fun e h => nomatch h⟩⟩⟩⟩⟩⟩⟩⟩⟩⟩⟩⟩⟩⟩⟩⟩⟩⟩⟩⟩⟩⟩⟩⟩⟩⟩⟩⟩⟩⟩⟩⟩⟩⟩⟩⟩⟩⟩⟩⟩⟩⟩⟩⟩⟩⟩⟩⟩⟩⟩⟩⟩⟩⟩⟩⟩, ?_⟩
  refine List.forall_mem_cons.2 ⟨List.forall_mem_cons.2 ⟨e67_cpi_ok, List.forall_mem_cons.2 ⟨e67_factor_ok, List.forall_mem_cons.2 ⟨e67_standard_ok, List.forall_mem_cons.2 ⟨e67_top_ok, List.forall_mem_cons.2 ⟨e67_rate_ok, List.forall_mem_cons.2 ⟨e67_credit_ok, List.forall_mem_cons.2 ⟨e67_phase_ok, fun e h => nomatch h⟩⟩⟩⟩⟩⟩⟩, ?_⟩
  refine List.forall_mem_cons.2 ⟨List.forall_mem_cons.2 ⟨e66_cpi_m1_ok, List.forall_mem_cons.2 ⟨e66_cpi_0_ok, List.forall_mem_cons.2 ⟨e66_cpi_1_ok, List.forall_mem_cons.2 ⟨e66_cpi_2_ok, List.forall_mem_cons.2 ⟨e66_cpi_3_ok, List.forall_mem_cons.2 ⟨e66_cpi_4_ok, List.forall_mem_cons.2 ⟨e66_cpi_5_ok, List.forall_mem_cons.2 ⟨e66_cpi_6_ok, List.forall_mem_cons.2 ⟨e66_factor_m1_ok, List.forall_mem_cons.2 ⟨e66_factor_0_ok, List.forall_mem_cons.2 ⟨e66_factor_1_ok, List.forall_mem_cons.2 ⟨e66_factor_2_ok, List.forall_mem_cons.2 ⟨e66_factor_3_ok, List.forall_mem_cons.2 ⟨e66_factor_4_ok, List.forall_mem_cons.2 ⟨e66_factor_5_ok, List.forall_mem_cons.2 ⟨e66_factor_6_ok, List.forall_mem_cons.2 ⟨e66_standard_m1_ok, List.forall_mem_cons.2 ⟨e66_standard_0_ok, List.forall_mem_cons.2 ⟨e66_standard_1_ok, List.forall_mem_cons.2 ⟨e66_standard_2_ok, List.forall_mem_cons.2 ⟨e66_standard_3_ok, List.forall_mem_cons.2 ⟨e66_standard_4_ok, List.forall_mem_cons.2 ⟨e66_standard_5_ok, List.forall_mem_cons.2 ⟨e66_standard_6_ok, List.forall_mem_cons.2 ⟨e66_top_m1_ok, List.forall_mem_cons.2 ⟨e66_top_0_ok, List.forall_mem_cons.2 ⟨e66_top_1_ok, List.forall_mem_cons.2 ⟨e66_top_2_ok, List.forall_mem_cons.2 ⟨e66_top_3_ok, List.forall_mem_cons.2 ⟨e66_top_4_ok, List.forall_mem_cons.2 ⟨e66_top_5_ok, List.forall_mem_cons.2 ⟨e66_top_6_ok, List.forall_mem_cons.2 ⟨e66_rate_m1_ok, List.forall_mem_cons.2 ⟨e66_rate_0_ok, List.forall_mem_cons.2 ⟨e66_rate_1_ok, List.forall_mem_cons.2 ⟨e66_rate_2_ok, List.forall_mem_cons.2 ⟨e66_rate_3_ok, List.forall_mem_cons.2 ⟨e66_rate_4_ok, List.forall_mem_cons.2 ⟨e66_rate_5_ok, List.forall_mem_cons.2 ⟨e66_rate_6_ok, List.forall_mem_cons.2 ⟨e66_credit_m1_ok, List.forall_mem_cons.2 ⟨e66_credit_0_ok, List.forall_mem_cons.2 ⟨e66_credit_1_ok, List.forall_mem_cons.2 ⟨e66_credit_2_ok, List.forall_mem_cons.2 ⟨e66_credit_3_ok, List.forall_mem_cons.2 ⟨e66_credit_4_ok, List.forall_mem_cons.2 ⟨e66_credit_5_ok, List.forall_mem_cons.2 ⟨e66_credit_6_ok, List.forall_mem_cons.2 ⟨e66_phase_m1_ok, List.forall_mem_cons.2 ⟨e66_phase_0_ok, List.forall_mem_cons.2 ⟨e66_phase_1_ok, List.forall_mem_cons.2 ⟨e66_phase_2_ok, List.forall_mem_cons.2 ⟨e66_phase_3_ok, List.forall_mem_cons.2 ⟨e66_phase_4_ok, List.forall_mem_cons.2 ⟨e66_phase_5_ok, List.forall_mem_cons.2 ⟨e66_phase_6_ok, fun e h => nomatch h⟩⟩⟩⟩⟩⟩⟩⟩⟩⟩⟩⟩⟩⟩⟩⟩⟩⟩⟩⟩⟩⟩⟩⟩⟩⟩⟩⟩⟩⟩⟩⟩⟩⟩⟩⟩⟩⟩⟩⟩⟩⟩⟩⟩⟩⟩⟩⟩⟩⟩⟩⟩⟩⟩⟩⟩, ?_⟩
  refine List.forall_mem_cons.2 ⟨List.forall_mem_cons.2 ⟨e68_cpi_ok, List.forall_mem_cons.2 ⟨e68_factor_ok, List.forall_mem_cons.2 ⟨e68_standard_ok, List.forall_mem_cons.2 ⟨e68_top_ok, List.forall_mem_cons.2 ⟨e68_rate_ok, List.forall_mem_cons.2 ⟨e68_credit_ok, List.forall_mem_cons.2 ⟨e68_phase_ok, fun e h => nomatch h⟩⟩⟩⟩⟩⟩⟩, ?_⟩
  refine List.forall_mem_cons.2 ⟨List.forall_mem_cons.2 ⟨e69_m1_ok, List.forall_mem_cons.2 ⟨e69_0_ok, List.forall_mem_cons.2 ⟨e69_1_ok, List.forall_mem_cons.2 ⟨e69_2_ok, List.forall_mem_cons.2 ⟨e69_3_ok, List.forall_mem_cons.2 ⟨e69_4_ok, List.forall_mem_cons.2 ⟨e69_5_ok, List.forall_mem_cons.2 ⟨e69_6_ok, fun e h => nomatch h⟩⟩⟩⟩⟩⟩⟩⟩, ?_⟩
  refine List.forall_mem_cons.2 ⟨List.forall_mem_cons.2 ⟨e70_m1_ok, List.forall_mem_cons.2 ⟨e70_0_ok, List.forall_mem_cons.2 ⟨e70_1_ok, List.forall_mem_cons.2 ⟨e70_2_ok, List.forall_mem_cons.2 ⟨e70_3_ok, List.forall_mem_cons.2 ⟨e70_4_ok, List.forall_mem_cons.2 ⟨e70_5_ok, List.forall_mem_cons.2 ⟨e70_6_ok, fun e h => nomatch h⟩⟩⟩⟩⟩⟩⟩⟩, ?_⟩
  exact fun x h => nomatch h
end Go.Proofs.YtmlkgejkjhlbfaaDoor
