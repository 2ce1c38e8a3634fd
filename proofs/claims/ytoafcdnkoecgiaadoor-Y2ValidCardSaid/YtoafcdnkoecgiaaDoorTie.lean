/-
  DERIVED. GIVEN WITH THE SEED: THE PROGRAM's TIES (one call each: nine closed facts by the kernel) AND EACH ROW's TIE, after the 31st guide's Derived/Test/Toyas{Tie, Card}.lean. No idea stands in it: it is a product of the set-up. Laid BY PROGRAM, IN A SANDBOX (cutbox-door.mjs). By AI agents, Wed Nov 11 2026. No macro, syntax, notation, axiom, sorry.
-/
import Derived.Test.YtoafcdnkoecgiaaDoorRows
import Derived.LaidByTextLater
import Derived.SevenTiedAt
import Derived.LaidSub
import Derived.LaidOnce
namespace Go.Proofs.YtoafcdnkoecgiaaDoor
open Go
set_option maxRecDepth 100000
theorem seatTie1 : Tryd.prog.laidByTextLater [("unicode/utf8.acceptRanges", Rows.laid_unicode_utf8_acceptRanges), ("tithe/api.ErrRange", Rows.laid_tithe_api_ErrRange), ("tithe/api.ErrZero", Rows.laid_tithe_api_ErrZero), ("tithe/api.ErrFrac", Rows.laid_tithe_api_ErrFrac), ("tithe/api.ErrRound", Rows.laid_tithe_api_ErrRound), ("tithe/api.ErrDay", Rows.laid_tithe_api_ErrDay), ("tithe/api.ErrSpan", Rows.laid_tithe_api_ErrSpan), ("tithe/api.ErrName", Rows.laid_tithe_api_ErrName), ("tithe/api.ErrKind", Rows.laid_tithe_api_ErrKind), ("tithe/api.ErrScale", Rows.laid_tithe_api_ErrScale), ("tithe/api.ErrProv", Rows.laid_tithe_api_ErrProv), ("tithe/api.ErrLong", Rows.laid_tithe_api_ErrLong), ("tithe/y1.cpi", Rows.laid_tithe_y1_cpi), ("tithe/y1.factor", Rows.laid_tithe_y1_factor), ("tithe/y1.top", Rows.laid_tithe_y1_top), ("tithe/y1.rate", Rows.laid_tithe_y1_rate), ("tithe/y1.phase", Rows.laid_tithe_y1_phase), ("tithe/y2.phase", Rows.laid_tithe_y2_phase), ("tithe/y2.credit", Rows.laid_tithe_y2_credit), ("tithe/y2.standard", Rows.laid_tithe_y2_standard), ("tithe/y2.top", Rows.laid_tithe_y2_top), ("tithe/y2.rate", Rows.laid_tithe_y2_rate), ("tithe/y2.factor", Rows.laid_tithe_y2_factor), ("tithe/y2.cpi", Rows.laid_tithe_y2_cpi), ("tithe/y3.phase", Rows.laid_tithe_y3_phase), ("tithe/y3.standard", Rows.laid_tithe_y3_standard), ("tithe/y3.top", Rows.laid_tithe_y3_top), ("tithe/y3.factor", Rows.laid_tithe_y3_factor), ("tithe/y4.credit", Rows.laid_tithe_y4_credit), ("tithe/y4.phase", Rows.laid_tithe_y4_phase), ("tithe/y4.top", Rows.laid_tithe_y4_top), ("tithe/y4.factor", Rows.laid_tithe_y4_factor), ("tithe/y4.cpi", Rows.laid_tithe_y4_cpi), ("tithe/y4.standard", Rows.laid_tithe_y4_standard), ("tithe/y4.rate", Rows.laid_tithe_y4_rate)] [.data, .sentinel, .sentinel, .sentinel, .sentinel, .sentinel, .sentinel, .sentinel, .sentinel, .sentinel, .sentinel, .sentinel, .data, .data, .data, .data, .data, .data, .data, .data, .data, .data, .data, .data, .data, .data, .data, .data, .data, .data, .data, .data, .data, .data, .data] true :=
  Program.laidByTextLater_by_one 343 8 33 (by kernel_rfl) (by kernel_rfl) (by kernel_rfl) (by kernel_rfl) (by kernel_rfl) (by kernel_rfl) (fun _ _ => by kernel_rfl)
theorem pin_laid_unicode_utf8_first : Tryd.pinned.checked.prog.pinnedFits "unicode/utf8.first" = true := by kernel_rfl
theorem noOwnUnsafe : Tryd.pinned.checked.prog.headLifts.contains "ownunsafe" = false := by kernel_rfl
theorem tie : Tryd.prog.laidByTextLater [("tithe/api.ErrRange", Rows.laid_tithe_api_ErrRange), ("tithe/api.ErrZero", Rows.laid_tithe_api_ErrZero), ("tithe/api.ErrScale", Rows.laid_tithe_api_ErrScale), ("tithe/y1.cpi", Rows.laid_tithe_y1_cpi), ("tithe/y1.factor", Rows.laid_tithe_y1_factor), ("tithe/y1.top", Rows.laid_tithe_y1_top), ("tithe/y1.rate", Rows.laid_tithe_y1_rate), ("tithe/y1.phase", Rows.laid_tithe_y1_phase), ("tithe/y2.phase", Rows.laid_tithe_y2_phase), ("tithe/y2.credit", Rows.laid_tithe_y2_credit), ("tithe/y2.standard", Rows.laid_tithe_y2_standard), ("tithe/y2.top", Rows.laid_tithe_y2_top), ("tithe/y2.rate", Rows.laid_tithe_y2_rate), ("tithe/y2.factor", Rows.laid_tithe_y2_factor), ("tithe/y2.cpi", Rows.laid_tithe_y2_cpi), ("tithe/y3.phase", Rows.laid_tithe_y3_phase), ("tithe/y3.standard", Rows.laid_tithe_y3_standard), ("tithe/y3.top", Rows.laid_tithe_y3_top), ("tithe/y4.credit", Rows.laid_tithe_y4_credit), ("tithe/y4.phase", Rows.laid_tithe_y4_phase), ("tithe/y4.top", Rows.laid_tithe_y4_top), ("tithe/y4.factor", Rows.laid_tithe_y4_factor), ("tithe/y4.cpi", Rows.laid_tithe_y4_cpi), ("tithe/y4.standard", Rows.laid_tithe_y4_standard), ("tithe/y4.rate", Rows.laid_tithe_y4_rate)] [.sentinel, .sentinel, .sentinel, .data, .data, .data, .data, .data, .data, .data, .data, .data, .data, .data, .data, .data, .data, .data, .data, .data, .data, .data, .data, .data, .data] true :=
  Program.laidByTextLater.sub seatTie1 ["tithe/api.ErrRange", "tithe/api.ErrZero", "tithe/api.ErrScale", "tithe/y1.cpi", "tithe/y1.factor", "tithe/y1.top", "tithe/y1.rate", "tithe/y1.phase", "tithe/y2.phase", "tithe/y2.credit", "tithe/y2.standard", "tithe/y2.top", "tithe/y2.rate", "tithe/y2.factor", "tithe/y2.cpi", "tithe/y3.phase", "tithe/y3.standard", "tithe/y3.top", "tithe/y4.credit", "tithe/y4.phase", "tithe/y4.top", "tithe/y4.factor", "tithe/y4.cpi", "tithe/y4.standard", "tithe/y4.rate"] (by kernel_rfl) (by kernel_rfl)
theorem y4Repeals_row_tie : Rows.y4RepealsRow.laidByTextAt .later Tryd.pinned [.sentinel, .sentinel, .sentinel, .data, .data, .data, .data, .data, .data, .data, .data, .data, .data, .data, .data, .data, .data, .data, .data, .data, .data, .data, .data, .data, .data] true :=
  OpenClaim.laidByTextAt_later rfl rfl tie noOwnUnsafe
theorem tie2 : Tryd.prog.laidByTextLater [("tithe/api.ErrRange", Rows.laid_tithe_api_ErrRange), ("tithe/api.ErrZero", Rows.laid_tithe_api_ErrZero), ("tithe/api.ErrScale", Rows.laid_tithe_api_ErrScale), ("tithe/y1.cpi", Rows.laid_tithe_y1_cpi), ("tithe/y1.factor", Rows.laid_tithe_y1_factor), ("tithe/y1.top", Rows.laid_tithe_y1_top), ("tithe/y1.rate", Rows.laid_tithe_y1_rate), ("tithe/y1.phase", Rows.laid_tithe_y1_phase), ("tithe/y2.phase", Rows.laid_tithe_y2_phase), ("tithe/y2.credit", Rows.laid_tithe_y2_credit), ("tithe/y2.standard", Rows.laid_tithe_y2_standard), ("tithe/y2.top", Rows.laid_tithe_y2_top), ("tithe/y2.rate", Rows.laid_tithe_y2_rate), ("tithe/y2.factor", Rows.laid_tithe_y2_factor), ("tithe/y2.cpi", Rows.laid_tithe_y2_cpi), ("tithe/y3.phase", Rows.laid_tithe_y3_phase), ("tithe/y3.standard", Rows.laid_tithe_y3_standard), ("tithe/y3.top", Rows.laid_tithe_y3_top), ("tithe/y3.factor", Rows.laid_tithe_y3_factor)] [.sentinel, .sentinel, .sentinel, .data, .data, .data, .data, .data, .data, .data, .data, .data, .data, .data, .data, .data, .data, .data, .data] true :=
  Program.laidByTextLater.sub seatTie1 ["tithe/api.ErrRange", "tithe/api.ErrZero", "tithe/api.ErrScale", "tithe/y1.cpi", "tithe/y1.factor", "tithe/y1.top", "tithe/y1.rate", "tithe/y1.phase", "tithe/y2.phase", "tithe/y2.credit", "tithe/y2.standard", "tithe/y2.top", "tithe/y2.rate", "tithe/y2.factor", "tithe/y2.cpi", "tithe/y3.phase", "tithe/y3.standard", "tithe/y3.top", "tithe/y3.factor"] (by kernel_rfl) (by kernel_rfl)
theorem thirdNotes_row_tie : Rows.thirdNotesRow.laidByTextAt .later Tryd.pinned [.sentinel, .sentinel, .sentinel, .data, .data, .data, .data, .data, .data, .data, .data, .data, .data, .data, .data, .data, .data, .data, .data] true :=
  OpenClaim.laidByTextAt_later rfl rfl tie2 noOwnUnsafe
theorem tie3 : Tryd.prog.laidByTextLater [("tithe/api.ErrRange", Rows.laid_tithe_api_ErrRange), ("tithe/api.ErrZero", Rows.laid_tithe_api_ErrZero), ("tithe/api.ErrFrac", Rows.laid_tithe_api_ErrFrac), ("tithe/api.ErrRound", Rows.laid_tithe_api_ErrRound), ("tithe/y1.cpi", Rows.laid_tithe_y1_cpi), ("tithe/y1.factor", Rows.laid_tithe_y1_factor), ("tithe/y1.top", Rows.laid_tithe_y1_top), ("tithe/y1.rate", Rows.laid_tithe_y1_rate), ("tithe/y1.phase", Rows.laid_tithe_y1_phase), ("tithe/y2.phase", Rows.laid_tithe_y2_phase), ("tithe/y2.credit", Rows.laid_tithe_y2_credit), ("tithe/y2.standard", Rows.laid_tithe_y2_standard), ("tithe/y2.top", Rows.laid_tithe_y2_top), ("tithe/y2.rate", Rows.laid_tithe_y2_rate), ("tithe/y2.factor", Rows.laid_tithe_y2_factor), ("tithe/y2.cpi", Rows.laid_tithe_y2_cpi), ("tithe/y3.phase", Rows.laid_tithe_y3_phase), ("tithe/y3.standard", Rows.laid_tithe_y3_standard), ("tithe/y3.top", Rows.laid_tithe_y3_top), ("tithe/y3.factor", Rows.laid_tithe_y3_factor), ("tithe/y4.credit", Rows.laid_tithe_y4_credit), ("tithe/y4.phase", Rows.laid_tithe_y4_phase), ("tithe/y4.top", Rows.laid_tithe_y4_top), ("tithe/y4.factor", Rows.laid_tithe_y4_factor), ("tithe/y4.cpi", Rows.laid_tithe_y4_cpi), ("tithe/y4.standard", Rows.laid_tithe_y4_standard), ("tithe/y4.rate", Rows.laid_tithe_y4_rate)] [.sentinel, .sentinel, .sentinel, .sentinel, .data, .data, .data, .data, .data, .data, .data, .data, .data, .data, .data, .data, .data, .data, .data, .data, .data, .data, .data, .data, .data, .data, .data] true :=
  Program.laidByTextLater.sub seatTie1 ["tithe/api.ErrRange", "tithe/api.ErrZero", "tithe/api.ErrFrac", "tithe/api.ErrRound", "tithe/y1.cpi", "tithe/y1.factor", "tithe/y1.top", "tithe/y1.rate", "tithe/y1.phase", "tithe/y2.phase", "tithe/y2.credit", "tithe/y2.standard", "tithe/y2.top", "tithe/y2.rate", "tithe/y2.factor", "tithe/y2.cpi", "tithe/y3.phase", "tithe/y3.standard", "tithe/y3.top", "tithe/y3.factor", "tithe/y4.credit", "tithe/y4.phase", "tithe/y4.top", "tithe/y4.factor", "tithe/y4.cpi", "tithe/y4.standard", "tithe/y4.rate"] (by kernel_rfl) (by kernel_rfl)
theorem y4Follows_row_tie : Rows.y4FollowsRow.laidByTextAt .later Tryd.pinned [.sentinel, .sentinel, .sentinel, .sentinel, .data, .data, .data, .data, .data, .data, .data, .data, .data, .data, .data, .data, .data, .data, .data, .data, .data, .data, .data, .data, .data, .data, .data] true :=
  OpenClaim.laidByTextAt_later rfl rfl tie3 noOwnUnsafe
theorem tie4 : Tryd.prog.laidByTextLater [("tithe/api.ErrRange", Rows.laid_tithe_api_ErrRange), ("tithe/api.ErrZero", Rows.laid_tithe_api_ErrZero), ("tithe/api.ErrFrac", Rows.laid_tithe_api_ErrFrac), ("tithe/api.ErrRound", Rows.laid_tithe_api_ErrRound), ("tithe/api.ErrScale", Rows.laid_tithe_api_ErrScale), ("tithe/y1.cpi", Rows.laid_tithe_y1_cpi), ("tithe/y1.factor", Rows.laid_tithe_y1_factor), ("tithe/y1.top", Rows.laid_tithe_y1_top), ("tithe/y1.rate", Rows.laid_tithe_y1_rate), ("tithe/y1.phase", Rows.laid_tithe_y1_phase), ("tithe/y2.phase", Rows.laid_tithe_y2_phase), ("tithe/y2.credit", Rows.laid_tithe_y2_credit), ("tithe/y2.standard", Rows.laid_tithe_y2_standard), ("tithe/y2.top", Rows.laid_tithe_y2_top), ("tithe/y2.rate", Rows.laid_tithe_y2_rate), ("tithe/y2.factor", Rows.laid_tithe_y2_factor), ("tithe/y2.cpi", Rows.laid_tithe_y2_cpi)] [.sentinel, .sentinel, .sentinel, .sentinel, .sentinel, .data, .data, .data, .data, .data, .data, .data, .data, .data, .data, .data, .data] true :=
  Program.laidByTextLater.sub seatTie1 ["tithe/api.ErrRange", "tithe/api.ErrZero", "tithe/api.ErrFrac", "tithe/api.ErrRound", "tithe/api.ErrScale", "tithe/y1.cpi", "tithe/y1.factor", "tithe/y1.top", "tithe/y1.rate", "tithe/y1.phase", "tithe/y2.phase", "tithe/y2.credit", "tithe/y2.standard", "tithe/y2.top", "tithe/y2.rate", "tithe/y2.factor", "tithe/y2.cpi"] (by kernel_rfl) (by kernel_rfl)
theorem y2Leans_row_tie : Rows.y2LeansRow.laidByTextAt .later Tryd.pinned [.sentinel, .sentinel, .sentinel, .sentinel, .sentinel, .data, .data, .data, .data, .data, .data, .data, .data, .data, .data, .data, .data] true :=
  OpenClaim.laidByTextAt_later rfl rfl tie4 noOwnUnsafe
theorem tie5 : Tryd.prog.laidByTextLater [("tithe/api.ErrRange", Rows.laid_tithe_api_ErrRange), ("tithe/api.ErrZero", Rows.laid_tithe_api_ErrZero), ("tithe/api.ErrFrac", Rows.laid_tithe_api_ErrFrac), ("tithe/api.ErrRound", Rows.laid_tithe_api_ErrRound), ("tithe/api.ErrScale", Rows.laid_tithe_api_ErrScale), ("tithe/y1.cpi", Rows.laid_tithe_y1_cpi), ("tithe/y1.factor", Rows.laid_tithe_y1_factor), ("tithe/y1.top", Rows.laid_tithe_y1_top), ("tithe/y1.rate", Rows.laid_tithe_y1_rate), ("tithe/y1.phase", Rows.laid_tithe_y1_phase), ("tithe/y2.phase", Rows.laid_tithe_y2_phase), ("tithe/y2.credit", Rows.laid_tithe_y2_credit), ("tithe/y2.standard", Rows.laid_tithe_y2_standard), ("tithe/y2.top", Rows.laid_tithe_y2_top), ("tithe/y2.rate", Rows.laid_tithe_y2_rate), ("tithe/y2.factor", Rows.laid_tithe_y2_factor), ("tithe/y2.cpi", Rows.laid_tithe_y2_cpi), ("tithe/y3.phase", Rows.laid_tithe_y3_phase), ("tithe/y3.standard", Rows.laid_tithe_y3_standard), ("tithe/y3.top", Rows.laid_tithe_y3_top), ("tithe/y3.factor", Rows.laid_tithe_y3_factor)] [.sentinel, .sentinel, .sentinel, .sentinel, .sentinel, .data, .data, .data, .data, .data, .data, .data, .data, .data, .data, .data, .data, .data, .data, .data, .data] true :=
  Program.laidByTextLater.sub seatTie1 ["tithe/api.ErrRange", "tithe/api.ErrZero", "tithe/api.ErrFrac", "tithe/api.ErrRound", "tithe/api.ErrScale", "tithe/y1.cpi", "tithe/y1.factor", "tithe/y1.top", "tithe/y1.rate", "tithe/y1.phase", "tithe/y2.phase", "tithe/y2.credit", "tithe/y2.standard", "tithe/y2.top", "tithe/y2.rate", "tithe/y2.factor", "tithe/y2.cpi", "tithe/y3.phase", "tithe/y3.standard", "tithe/y3.top", "tithe/y3.factor"] (by kernel_rfl) (by kernel_rfl)
theorem thirdFollows_row_tie : Rows.thirdFollowsRow.laidByTextAt .later Tryd.pinned [.sentinel, .sentinel, .sentinel, .sentinel, .sentinel, .data, .data, .data, .data, .data, .data, .data, .data, .data, .data, .data, .data, .data, .data, .data, .data] true :=
  OpenClaim.laidByTextAt_later rfl rfl tie5 noOwnUnsafe
theorem fits6 : Tryd.pinned.checked.prog.listedFits [("unicode/utf8.acceptRanges", Rows.laid_unicode_utf8_acceptRanges), ("tithe/api.ErrRange", Rows.laid_tithe_api_ErrRange), ("tithe/api.ErrZero", Rows.laid_tithe_api_ErrZero), ("tithe/api.ErrFrac", Rows.laid_tithe_api_ErrFrac), ("tithe/api.ErrRound", Rows.laid_tithe_api_ErrRound), ("tithe/api.ErrDay", Rows.laid_tithe_api_ErrDay), ("tithe/api.ErrSpan", Rows.laid_tithe_api_ErrSpan), ("tithe/api.ErrName", Rows.laid_tithe_api_ErrName), ("tithe/api.ErrKind", Rows.laid_tithe_api_ErrKind), ("tithe/api.ErrScale", Rows.laid_tithe_api_ErrScale), ("tithe/api.ErrProv", Rows.laid_tithe_api_ErrProv), ("tithe/api.ErrLong", Rows.laid_tithe_api_ErrLong), ("tithe/y1.cpi", Rows.laid_tithe_y1_cpi), ("tithe/y1.factor", Rows.laid_tithe_y1_factor), ("tithe/y1.top", Rows.laid_tithe_y1_top), ("tithe/y1.rate", Rows.laid_tithe_y1_rate), ("tithe/y1.phase", Rows.laid_tithe_y1_phase), ("tithe/y2.phase", Rows.laid_tithe_y2_phase), ("tithe/y2.credit", Rows.laid_tithe_y2_credit), ("tithe/y2.standard", Rows.laid_tithe_y2_standard), ("tithe/y2.top", Rows.laid_tithe_y2_top), ("tithe/y2.rate", Rows.laid_tithe_y2_rate), ("tithe/y2.factor", Rows.laid_tithe_y2_factor), ("tithe/y2.cpi", Rows.laid_tithe_y2_cpi), ("unicode/utf8.first", Rows.laid_unicode_utf8_first)] = true := by
  unfold Program.listedFits
  rw [noOwnUnsafe]
  kernel_rfl
theorem tie6 : Tryd.prog.laidByTextLater [("unicode/utf8.acceptRanges", Rows.laid_unicode_utf8_acceptRanges), ("tithe/api.ErrRange", Rows.laid_tithe_api_ErrRange), ("tithe/api.ErrZero", Rows.laid_tithe_api_ErrZero), ("tithe/api.ErrFrac", Rows.laid_tithe_api_ErrFrac), ("tithe/api.ErrRound", Rows.laid_tithe_api_ErrRound), ("tithe/api.ErrDay", Rows.laid_tithe_api_ErrDay), ("tithe/api.ErrSpan", Rows.laid_tithe_api_ErrSpan), ("tithe/api.ErrName", Rows.laid_tithe_api_ErrName), ("tithe/api.ErrKind", Rows.laid_tithe_api_ErrKind), ("tithe/api.ErrScale", Rows.laid_tithe_api_ErrScale), ("tithe/api.ErrProv", Rows.laid_tithe_api_ErrProv), ("tithe/api.ErrLong", Rows.laid_tithe_api_ErrLong), ("tithe/y1.cpi", Rows.laid_tithe_y1_cpi), ("tithe/y1.factor", Rows.laid_tithe_y1_factor), ("tithe/y1.top", Rows.laid_tithe_y1_top), ("tithe/y1.rate", Rows.laid_tithe_y1_rate), ("tithe/y1.phase", Rows.laid_tithe_y1_phase), ("tithe/y2.phase", Rows.laid_tithe_y2_phase), ("tithe/y2.credit", Rows.laid_tithe_y2_credit), ("tithe/y2.standard", Rows.laid_tithe_y2_standard), ("tithe/y2.top", Rows.laid_tithe_y2_top), ("tithe/y2.rate", Rows.laid_tithe_y2_rate), ("tithe/y2.factor", Rows.laid_tithe_y2_factor), ("tithe/y2.cpi", Rows.laid_tithe_y2_cpi)] [.data, .sentinel, .sentinel, .sentinel, .sentinel, .sentinel, .sentinel, .sentinel, .sentinel, .sentinel, .sentinel, .sentinel, .data, .data, .data, .data, .data, .data, .data, .data, .data, .data, .data, .data] true :=
  Program.laidByTextLater.sub seatTie1 ["unicode/utf8.acceptRanges", "tithe/api.ErrRange", "tithe/api.ErrZero", "tithe/api.ErrFrac", "tithe/api.ErrRound", "tithe/api.ErrDay", "tithe/api.ErrSpan", "tithe/api.ErrName", "tithe/api.ErrKind", "tithe/api.ErrScale", "tithe/api.ErrProv", "tithe/api.ErrLong", "tithe/y1.cpi", "tithe/y1.factor", "tithe/y1.top", "tithe/y1.rate", "tithe/y1.phase", "tithe/y2.phase", "tithe/y2.credit", "tithe/y2.standard", "tithe/y2.top", "tithe/y2.rate", "tithe/y2.factor", "tithe/y2.cpi"] (by kernel_rfl) (by kernel_rfl)
theorem y2Valid_row_tie : Rows.y2ValidRow.laidByTextAt .later Tryd.pinned [.data, .sentinel, .sentinel, .sentinel, .sentinel, .sentinel, .sentinel, .sentinel, .sentinel, .sentinel, .sentinel, .sentinel, .data, .data, .data, .data, .data, .data, .data, .data, .data, .data, .data, .data, .pinned] true :=
  OpenClaim.laidByTextAt_pinned rfl rfl tie6 rfl rfl rfl rfl (fun y hy _e => by
    simp only [Rows.y2ValidRow, List.zip_cons_cons, List.zip_nil_right, List.mem_cons, List.mem_nil_iff, or_false] at hy
    rcases hy with rfl | rfl | rfl | rfl | rfl | rfl | rfl | rfl | rfl | rfl | rfl | rfl | rfl | rfl | rfl | rfl | rfl | rfl | rfl | rfl | rfl | rfl | rfl | rfl | rfl
    · cases _e
    · cases _e
    · cases _e
    · cases _e
    · cases _e
    · cases _e
    · cases _e
    · cases _e
    · cases _e
    · cases _e
    · cases _e
    · cases _e
    · cases _e
    · cases _e
    · cases _e
    · cases _e
    · cases _e
    · cases _e
    · cases _e
    · cases _e
    · cases _e
    · cases _e
    · cases _e
    · cases _e
    · exact ⟨pin_laid_unicode_utf8_first, by kernel_rfl⟩) fits6
theorem y4RepealsUpto_row_tie : Rows.y4RepealsUptoRow.laidByTextAt .later Tryd.pinned [.sentinel, .sentinel, .sentinel, .data, .data, .data, .data, .data, .data, .data, .data, .data, .data, .data, .data, .data, .data, .data, .data, .data, .data, .data, .data, .data, .data] true :=
  OpenClaim.laidByTextAt_later rfl rfl tie noOwnUnsafe
theorem thirdNotesUpto_row_tie : Rows.thirdNotesUptoRow.laidByTextAt .later Tryd.pinned [.sentinel, .sentinel, .sentinel, .data, .data, .data, .data, .data, .data, .data, .data, .data, .data, .data, .data, .data, .data, .data, .data] true :=
  OpenClaim.laidByTextAt_later rfl rfl tie2 noOwnUnsafe
theorem y4FollowsUpto_row_tie : Rows.y4FollowsUptoRow.laidByTextAt .later Tryd.pinned [.sentinel, .sentinel, .sentinel, .sentinel, .data, .data, .data, .data, .data, .data, .data, .data, .data, .data, .data, .data, .data, .data, .data, .data, .data, .data, .data, .data, .data, .data, .data] true :=
  OpenClaim.laidByTextAt_later rfl rfl tie3 noOwnUnsafe
theorem y2LeansUpto_row_tie : Rows.y2LeansUptoRow.laidByTextAt .later Tryd.pinned [.sentinel, .sentinel, .sentinel, .sentinel, .sentinel, .data, .data, .data, .data, .data, .data, .data, .data, .data, .data, .data, .data] true :=
  OpenClaim.laidByTextAt_later rfl rfl tie4 noOwnUnsafe
theorem thirdFollowsUpto_row_tie : Rows.thirdFollowsUptoRow.laidByTextAt .later Tryd.pinned [.sentinel, .sentinel, .sentinel, .sentinel, .sentinel, .data, .data, .data, .data, .data, .data, .data, .data, .data, .data, .data, .data, .data, .data, .data, .data] true :=
  OpenClaim.laidByTextAt_later rfl rfl tie5 noOwnUnsafe
theorem y2ValidUpto_row_tie : Rows.y2ValidUptoRow.laidByTextAt .later Tryd.pinned [.data, .sentinel, .sentinel, .sentinel, .sentinel, .sentinel, .sentinel, .sentinel, .sentinel, .sentinel, .sentinel, .sentinel, .data, .data, .data, .data, .data, .data, .data, .data, .data, .data, .data, .data, .pinned] true :=
  OpenClaim.laidByTextAt_pinned rfl rfl tie6 rfl rfl rfl rfl (fun y hy _e => by
    simp only [Rows.y2ValidUptoRow, List.zip_cons_cons, List.zip_nil_right, List.mem_cons, List.mem_nil_iff, or_false] at hy
    rcases hy with rfl | rfl | rfl | rfl | rfl | rfl | rfl | rfl | rfl | rfl | rfl | rfl | rfl | rfl | rfl | rfl | rfl | rfl | rfl | rfl | rfl | rfl | rfl | rfl | rfl
    · cases _e
    · cases _e
    · cases _e
    · cases _e
    · cases _e
    · cases _e
    · cases _e
    · cases _e
    · cases _e
    · cases _e
    · cases _e
    · cases _e
    · cases _e
    · cases _e
    · cases _e
    · cases _e
    · cases _e
    · cases _e
    · cases _e
    · cases _e
    · cases _e
    · cases _e
    · cases _e
    · cases _e
    · exact ⟨pin_laid_unicode_utf8_first, by kernel_rfl⟩) fits6
end Go.Proofs.YtoafcdnkoecgiaaDoor
