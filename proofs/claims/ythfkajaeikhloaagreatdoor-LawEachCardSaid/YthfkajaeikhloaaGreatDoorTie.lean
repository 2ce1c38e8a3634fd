/-
  DERIVED. GIVEN WITH THE SEED: THE PROGRAM's TIES (one call each: nine closed facts by the kernel) AND EACH ROW's TIE, after the 31st guide's Derived/Test/Toyas{Tie, Card}.lean. No idea stands in it: it is a product of the set-up. Laid BY PROGRAM, IN A SANDBOX (cutbox-door.mjs). By AI agents, Wed Nov 11 2026. No macro, syntax, notation, axiom, sorry.
-/
import Derived.Test.YthfkajaeikhloaaGreatDoorRows
import Derived.LaidByTextLater
import Derived.SevenTiedAt
import Derived.LaidSub
import Derived.LaidOnce
namespace Go.Proofs.YthfkajaeikhloaaGreatDoor
open Go
set_option maxRecDepth 100000
theorem seatTie1 : Tryz.prog.laidByTextLater [("unicode/utf8.acceptRanges", Rows.laid_unicode_utf8_acceptRanges), ("tithe/api.ErrRange", Rows.laid_tithe_api_ErrRange), ("tithe/api.ErrZero", Rows.laid_tithe_api_ErrZero), ("tithe/api.ErrFrac", Rows.laid_tithe_api_ErrFrac), ("tithe/api.ErrRound", Rows.laid_tithe_api_ErrRound), ("tithe/api.ErrDay", Rows.laid_tithe_api_ErrDay), ("tithe/api.ErrSpan", Rows.laid_tithe_api_ErrSpan), ("tithe/api.ErrName", Rows.laid_tithe_api_ErrName), ("tithe/api.ErrKind", Rows.laid_tithe_api_ErrKind), ("tithe/api.ErrScale", Rows.laid_tithe_api_ErrScale), ("tithe/api.ErrProv", Rows.laid_tithe_api_ErrProv), ("tithe/api.ErrTwice", Rows.laid_tithe_api_ErrTwice), ("tithe/api.ErrMany", Rows.laid_tithe_api_ErrMany), ("tithe/api.ErrClosed", Rows.laid_tithe_api_ErrClosed), ("tithe/api.ErrNone", Rows.laid_tithe_api_ErrNone), ("tithe/api.ErrLong", Rows.laid_tithe_api_ErrLong), ("tithe/api.ErrYear", Rows.laid_tithe_api_ErrYear), ("tithe/y1.cpi", Rows.laid_tithe_y1_cpi), ("tithe/y1.factor", Rows.laid_tithe_y1_factor), ("tithe/y1.top", Rows.laid_tithe_y1_top), ("tithe/y1.rate", Rows.laid_tithe_y1_rate), ("tithe/y1.phase", Rows.laid_tithe_y1_phase), ("tithe/y2.phase", Rows.laid_tithe_y2_phase), ("tithe/y2.credit", Rows.laid_tithe_y2_credit), ("tithe/y2.standard", Rows.laid_tithe_y2_standard), ("tithe/y2.top", Rows.laid_tithe_y2_top), ("tithe/y2.rate", Rows.laid_tithe_y2_rate), ("tithe/y2.factor", Rows.laid_tithe_y2_factor), ("tithe/y2.cpi", Rows.laid_tithe_y2_cpi), ("tithe/y3.phase", Rows.laid_tithe_y3_phase), ("tithe/y3.standard", Rows.laid_tithe_y3_standard), ("tithe/y3.top", Rows.laid_tithe_y3_top), ("tithe/y3.factor", Rows.laid_tithe_y3_factor), ("tithe/y4.credit", Rows.laid_tithe_y4_credit), ("tithe/y4.phase", Rows.laid_tithe_y4_phase), ("tithe/y4.top", Rows.laid_tithe_y4_top), ("tithe/y4.factor", Rows.laid_tithe_y4_factor), ("tithe/y4.cpi", Rows.laid_tithe_y4_cpi), ("tithe/y4.standard", Rows.laid_tithe_y4_standard), ("tithe/y4.rate", Rows.laid_tithe_y4_rate)] [.data, .sentinel, .sentinel, .sentinel, .sentinel, .sentinel, .sentinel, .sentinel, .sentinel, .sentinel, .sentinel, .sentinel, .sentinel, .sentinel, .sentinel, .sentinel, .sentinel, .data, .data, .data, .data, .data, .data, .data, .data, .data, .data, .data, .data, .data, .data, .data, .data, .data, .data, .data, .data, .data, .data, .data] true :=
  Program.laidByTextLater_by_one 438 8 33 (by kernel_rfl) (by kernel_rfl) (by kernel_rfl) (by kernel_rfl) (by kernel_rfl) (by kernel_rfl) (fun _ _ => by kernel_rfl)
theorem pin_laid_unicode_utf8_first : Tryz.pinned.checked.prog.pinnedFits "unicode/utf8.first" = true := by kernel_rfl
theorem noOwnUnsafe : Tryz.pinned.checked.prog.headLifts.contains "ownunsafe" = false := by kernel_rfl
theorem fits1 : Tryz.pinned.checked.prog.listedFits [("unicode/utf8.acceptRanges", Rows.laid_unicode_utf8_acceptRanges), ("tithe/api.ErrRange", Rows.laid_tithe_api_ErrRange), ("tithe/api.ErrZero", Rows.laid_tithe_api_ErrZero), ("tithe/api.ErrFrac", Rows.laid_tithe_api_ErrFrac), ("tithe/api.ErrRound", Rows.laid_tithe_api_ErrRound), ("tithe/api.ErrDay", Rows.laid_tithe_api_ErrDay), ("tithe/api.ErrSpan", Rows.laid_tithe_api_ErrSpan), ("tithe/api.ErrName", Rows.laid_tithe_api_ErrName), ("tithe/api.ErrKind", Rows.laid_tithe_api_ErrKind), ("tithe/api.ErrScale", Rows.laid_tithe_api_ErrScale), ("tithe/api.ErrProv", Rows.laid_tithe_api_ErrProv), ("tithe/api.ErrTwice", Rows.laid_tithe_api_ErrTwice), ("tithe/api.ErrMany", Rows.laid_tithe_api_ErrMany), ("tithe/api.ErrClosed", Rows.laid_tithe_api_ErrClosed), ("tithe/api.ErrNone", Rows.laid_tithe_api_ErrNone), ("tithe/api.ErrLong", Rows.laid_tithe_api_ErrLong), ("tithe/api.ErrYear", Rows.laid_tithe_api_ErrYear), ("tithe/y1.cpi", Rows.laid_tithe_y1_cpi), ("tithe/y1.factor", Rows.laid_tithe_y1_factor), ("tithe/y1.top", Rows.laid_tithe_y1_top), ("tithe/y1.rate", Rows.laid_tithe_y1_rate), ("tithe/y1.phase", Rows.laid_tithe_y1_phase), ("tithe/y2.phase", Rows.laid_tithe_y2_phase), ("tithe/y2.credit", Rows.laid_tithe_y2_credit), ("tithe/y2.standard", Rows.laid_tithe_y2_standard), ("tithe/y2.top", Rows.laid_tithe_y2_top), ("tithe/y2.rate", Rows.laid_tithe_y2_rate), ("tithe/y2.factor", Rows.laid_tithe_y2_factor), ("tithe/y2.cpi", Rows.laid_tithe_y2_cpi), ("tithe/y3.phase", Rows.laid_tithe_y3_phase), ("tithe/y3.standard", Rows.laid_tithe_y3_standard), ("tithe/y3.top", Rows.laid_tithe_y3_top), ("tithe/y3.factor", Rows.laid_tithe_y3_factor), ("tithe/y4.credit", Rows.laid_tithe_y4_credit), ("tithe/y4.phase", Rows.laid_tithe_y4_phase), ("tithe/y4.top", Rows.laid_tithe_y4_top), ("tithe/y4.factor", Rows.laid_tithe_y4_factor), ("tithe/y4.cpi", Rows.laid_tithe_y4_cpi), ("tithe/y4.standard", Rows.laid_tithe_y4_standard), ("tithe/y4.rate", Rows.laid_tithe_y4_rate), ("unicode/utf8.first", Rows.laid_unicode_utf8_first)] = true := by
  unfold Program.listedFits
  rw [noOwnUnsafe]
  kernel_rfl
theorem tie : Tryz.prog.laidByTextLater [("unicode/utf8.acceptRanges", Rows.laid_unicode_utf8_acceptRanges), ("tithe/api.ErrRange", Rows.laid_tithe_api_ErrRange), ("tithe/api.ErrZero", Rows.laid_tithe_api_ErrZero), ("tithe/api.ErrFrac", Rows.laid_tithe_api_ErrFrac), ("tithe/api.ErrRound", Rows.laid_tithe_api_ErrRound), ("tithe/api.ErrDay", Rows.laid_tithe_api_ErrDay), ("tithe/api.ErrSpan", Rows.laid_tithe_api_ErrSpan), ("tithe/api.ErrName", Rows.laid_tithe_api_ErrName), ("tithe/api.ErrKind", Rows.laid_tithe_api_ErrKind), ("tithe/api.ErrScale", Rows.laid_tithe_api_ErrScale), ("tithe/api.ErrProv", Rows.laid_tithe_api_ErrProv), ("tithe/api.ErrTwice", Rows.laid_tithe_api_ErrTwice), ("tithe/api.ErrMany", Rows.laid_tithe_api_ErrMany), ("tithe/api.ErrClosed", Rows.laid_tithe_api_ErrClosed), ("tithe/api.ErrNone", Rows.laid_tithe_api_ErrNone), ("tithe/api.ErrLong", Rows.laid_tithe_api_ErrLong), ("tithe/api.ErrYear", Rows.laid_tithe_api_ErrYear), ("tithe/y1.cpi", Rows.laid_tithe_y1_cpi), ("tithe/y1.factor", Rows.laid_tithe_y1_factor), ("tithe/y1.top", Rows.laid_tithe_y1_top), ("tithe/y1.rate", Rows.laid_tithe_y1_rate), ("tithe/y1.phase", Rows.laid_tithe_y1_phase), ("tithe/y2.phase", Rows.laid_tithe_y2_phase), ("tithe/y2.credit", Rows.laid_tithe_y2_credit), ("tithe/y2.standard", Rows.laid_tithe_y2_standard), ("tithe/y2.top", Rows.laid_tithe_y2_top), ("tithe/y2.rate", Rows.laid_tithe_y2_rate), ("tithe/y2.factor", Rows.laid_tithe_y2_factor), ("tithe/y2.cpi", Rows.laid_tithe_y2_cpi), ("tithe/y3.phase", Rows.laid_tithe_y3_phase), ("tithe/y3.standard", Rows.laid_tithe_y3_standard), ("tithe/y3.top", Rows.laid_tithe_y3_top), ("tithe/y3.factor", Rows.laid_tithe_y3_factor), ("tithe/y4.credit", Rows.laid_tithe_y4_credit), ("tithe/y4.phase", Rows.laid_tithe_y4_phase), ("tithe/y4.top", Rows.laid_tithe_y4_top), ("tithe/y4.factor", Rows.laid_tithe_y4_factor), ("tithe/y4.cpi", Rows.laid_tithe_y4_cpi), ("tithe/y4.standard", Rows.laid_tithe_y4_standard), ("tithe/y4.rate", Rows.laid_tithe_y4_rate)] [.data, .sentinel, .sentinel, .sentinel, .sentinel, .sentinel, .sentinel, .sentinel, .sentinel, .sentinel, .sentinel, .sentinel, .sentinel, .sentinel, .sentinel, .sentinel, .sentinel, .data, .data, .data, .data, .data, .data, .data, .data, .data, .data, .data, .data, .data, .data, .data, .data, .data, .data, .data, .data, .data, .data, .data] true :=
  Program.laidByTextLater.sub seatTie1 ["unicode/utf8.acceptRanges", "tithe/api.ErrRange", "tithe/api.ErrZero", "tithe/api.ErrFrac", "tithe/api.ErrRound", "tithe/api.ErrDay", "tithe/api.ErrSpan", "tithe/api.ErrName", "tithe/api.ErrKind", "tithe/api.ErrScale", "tithe/api.ErrProv", "tithe/api.ErrTwice", "tithe/api.ErrMany", "tithe/api.ErrClosed", "tithe/api.ErrNone", "tithe/api.ErrLong", "tithe/api.ErrYear", "tithe/y1.cpi", "tithe/y1.factor", "tithe/y1.top", "tithe/y1.rate", "tithe/y1.phase", "tithe/y2.phase", "tithe/y2.credit", "tithe/y2.standard", "tithe/y2.top", "tithe/y2.rate", "tithe/y2.factor", "tithe/y2.cpi", "tithe/y3.phase", "tithe/y3.standard", "tithe/y3.top", "tithe/y3.factor", "tithe/y4.credit", "tithe/y4.phase", "tithe/y4.top", "tithe/y4.factor", "tithe/y4.cpi", "tithe/y4.standard", "tithe/y4.rate"] (by kernel_rfl) (by kernel_rfl)
theorem lawInForce_row_tie : Rows.lawInForceRow.laidByTextAt .later Tryz.pinned [.data, .sentinel, .sentinel, .sentinel, .sentinel, .sentinel, .sentinel, .sentinel, .sentinel, .sentinel, .sentinel, .sentinel, .sentinel, .sentinel, .sentinel, .sentinel, .sentinel, .data, .data, .data, .data, .data, .data, .data, .data, .data, .data, .data, .data, .data, .data, .data, .data, .data, .data, .data, .data, .data, .data, .data, .pinned] true :=
  OpenClaim.laidByTextAt_pinned rfl rfl tie rfl rfl rfl rfl (fun y hy _e => by
    simp only [Rows.lawInForceRow, List.zip_cons_cons, List.zip_nil_right, List.mem_cons, List.mem_nil_iff, or_false] at hy
    rcases hy with rfl | rfl | rfl | rfl | rfl | rfl | rfl | rfl | rfl | rfl | rfl | rfl | rfl | rfl | rfl | rfl | rfl | rfl | rfl | rfl | rfl | rfl | rfl | rfl | rfl | rfl | rfl | rfl | rfl | rfl | rfl | rfl | rfl | rfl | rfl | rfl | rfl | rfl | rfl | rfl | rfl
    · cases _e
    · cases _e
    · cases _e
    · cases _e
    · cases _e
    · cases _e
    · cases _e
    · cases _e
    · cases _e
    · cases _e
    · cases _e
    · cases _e
    · cases _e
    · cases _e
    · cases _e
    · cases _e
    · cases _e
    · cases _e
    · cases _e
    · cases _e
    · cases _e
    · cases _e
    · cases _e
    · cases _e
    · cases _e
    · cases _e
    · cases _e
    · cases _e
    · cases _e
    · cases _e
    · cases _e
    · cases _e
    · cases _e
    · cases _e
    · cases _e
    · cases _e
    · cases _e
    · cases _e
    · cases _e
    · cases _e
    · exact ⟨pin_laid_unicode_utf8_first, by kernel_rfl⟩) fits1
theorem lawEach_row_tie : Rows.lawEachRow.laidByTextAt .later Tryz.pinned [.data, .sentinel, .sentinel, .sentinel, .sentinel, .sentinel, .sentinel, .sentinel, .sentinel, .sentinel, .sentinel, .sentinel, .sentinel, .sentinel, .sentinel, .sentinel, .sentinel, .data, .data, .data, .data, .data, .data, .data, .data, .data, .data, .data, .data, .data, .data, .data, .data, .data, .data, .data, .data, .data, .data, .data, .pinned] true :=
  OpenClaim.laidByTextAt_pinned rfl rfl tie rfl rfl rfl rfl (fun y hy _e => by
    simp only [Rows.lawEachRow, List.zip_cons_cons, List.zip_nil_right, List.mem_cons, List.mem_nil_iff, or_false] at hy
    rcases hy with rfl | rfl | rfl | rfl | rfl | rfl | rfl | rfl | rfl | rfl | rfl | rfl | rfl | rfl | rfl | rfl | rfl | rfl | rfl | rfl | rfl | rfl | rfl | rfl | rfl | rfl | rfl | rfl | rfl | rfl | rfl | rfl | rfl | rfl | rfl | rfl | rfl | rfl | rfl | rfl | rfl
    · cases _e
    · cases _e
    · cases _e
    · cases _e
    · cases _e
    · cases _e
    · cases _e
    · cases _e
    · cases _e
    · cases _e
    · cases _e
    · cases _e
    · cases _e
    · cases _e
    · cases _e
    · cases _e
    · cases _e
    · cases _e
    · cases _e
    · cases _e
    · cases _e
    · cases _e
    · cases _e
    · cases _e
    · cases _e
    · cases _e
    · cases _e
    · cases _e
    · cases _e
    · cases _e
    · cases _e
    · cases _e
    · cases _e
    · cases _e
    · cases _e
    · cases _e
    · cases _e
    · cases _e
    · cases _e
    · cases _e
    · exact ⟨pin_laid_unicode_utf8_first, by kernel_rfl⟩) fits1
theorem fits2 : Tryz.pinned.checked.prog.listedFits [("unicode/utf8.acceptRanges", Rows.laid_unicode_utf8_acceptRanges), ("tithe/api.ErrRange", Rows.laid_tithe_api_ErrRange), ("tithe/api.ErrZero", Rows.laid_tithe_api_ErrZero), ("tithe/api.ErrFrac", Rows.laid_tithe_api_ErrFrac), ("tithe/api.ErrRound", Rows.laid_tithe_api_ErrRound), ("tithe/api.ErrDay", Rows.laid_tithe_api_ErrDay), ("tithe/api.ErrSpan", Rows.laid_tithe_api_ErrSpan), ("tithe/api.ErrName", Rows.laid_tithe_api_ErrName), ("tithe/api.ErrKind", Rows.laid_tithe_api_ErrKind), ("tithe/api.ErrScale", Rows.laid_tithe_api_ErrScale), ("tithe/api.ErrProv", Rows.laid_tithe_api_ErrProv), ("tithe/api.ErrTwice", Rows.laid_tithe_api_ErrTwice), ("tithe/api.ErrMany", Rows.laid_tithe_api_ErrMany), ("tithe/api.ErrClosed", Rows.laid_tithe_api_ErrClosed), ("tithe/api.ErrNone", Rows.laid_tithe_api_ErrNone), ("tithe/api.ErrLong", Rows.laid_tithe_api_ErrLong), ("tithe/y1.cpi", Rows.laid_tithe_y1_cpi), ("tithe/y1.factor", Rows.laid_tithe_y1_factor), ("tithe/y1.top", Rows.laid_tithe_y1_top), ("tithe/y1.rate", Rows.laid_tithe_y1_rate), ("tithe/y1.phase", Rows.laid_tithe_y1_phase), ("tithe/y2.phase", Rows.laid_tithe_y2_phase), ("tithe/y2.credit", Rows.laid_tithe_y2_credit), ("tithe/y2.standard", Rows.laid_tithe_y2_standard), ("tithe/y2.top", Rows.laid_tithe_y2_top), ("tithe/y2.rate", Rows.laid_tithe_y2_rate), ("tithe/y2.factor", Rows.laid_tithe_y2_factor), ("tithe/y2.cpi", Rows.laid_tithe_y2_cpi), ("unicode/utf8.first", Rows.laid_unicode_utf8_first)] = true := by
  unfold Program.listedFits
  rw [noOwnUnsafe]
  kernel_rfl
theorem tie2 : Tryz.prog.laidByTextLater [("unicode/utf8.acceptRanges", Rows.laid_unicode_utf8_acceptRanges), ("tithe/api.ErrRange", Rows.laid_tithe_api_ErrRange), ("tithe/api.ErrZero", Rows.laid_tithe_api_ErrZero), ("tithe/api.ErrFrac", Rows.laid_tithe_api_ErrFrac), ("tithe/api.ErrRound", Rows.laid_tithe_api_ErrRound), ("tithe/api.ErrDay", Rows.laid_tithe_api_ErrDay), ("tithe/api.ErrSpan", Rows.laid_tithe_api_ErrSpan), ("tithe/api.ErrName", Rows.laid_tithe_api_ErrName), ("tithe/api.ErrKind", Rows.laid_tithe_api_ErrKind), ("tithe/api.ErrScale", Rows.laid_tithe_api_ErrScale), ("tithe/api.ErrProv", Rows.laid_tithe_api_ErrProv), ("tithe/api.ErrTwice", Rows.laid_tithe_api_ErrTwice), ("tithe/api.ErrMany", Rows.laid_tithe_api_ErrMany), ("tithe/api.ErrClosed", Rows.laid_tithe_api_ErrClosed), ("tithe/api.ErrNone", Rows.laid_tithe_api_ErrNone), ("tithe/api.ErrLong", Rows.laid_tithe_api_ErrLong), ("tithe/y1.cpi", Rows.laid_tithe_y1_cpi), ("tithe/y1.factor", Rows.laid_tithe_y1_factor), ("tithe/y1.top", Rows.laid_tithe_y1_top), ("tithe/y1.rate", Rows.laid_tithe_y1_rate), ("tithe/y1.phase", Rows.laid_tithe_y1_phase), ("tithe/y2.phase", Rows.laid_tithe_y2_phase), ("tithe/y2.credit", Rows.laid_tithe_y2_credit), ("tithe/y2.standard", Rows.laid_tithe_y2_standard), ("tithe/y2.top", Rows.laid_tithe_y2_top), ("tithe/y2.rate", Rows.laid_tithe_y2_rate), ("tithe/y2.factor", Rows.laid_tithe_y2_factor), ("tithe/y2.cpi", Rows.laid_tithe_y2_cpi)] [.data, .sentinel, .sentinel, .sentinel, .sentinel, .sentinel, .sentinel, .sentinel, .sentinel, .sentinel, .sentinel, .sentinel, .sentinel, .sentinel, .sentinel, .sentinel, .data, .data, .data, .data, .data, .data, .data, .data, .data, .data, .data, .data] true :=
  Program.laidByTextLater.sub seatTie1 ["unicode/utf8.acceptRanges", "tithe/api.ErrRange", "tithe/api.ErrZero", "tithe/api.ErrFrac", "tithe/api.ErrRound", "tithe/api.ErrDay", "tithe/api.ErrSpan", "tithe/api.ErrName", "tithe/api.ErrKind", "tithe/api.ErrScale", "tithe/api.ErrProv", "tithe/api.ErrTwice", "tithe/api.ErrMany", "tithe/api.ErrClosed", "tithe/api.ErrNone", "tithe/api.ErrLong", "tithe/y1.cpi", "tithe/y1.factor", "tithe/y1.top", "tithe/y1.rate", "tithe/y1.phase", "tithe/y2.phase", "tithe/y2.credit", "tithe/y2.standard", "tithe/y2.top", "tithe/y2.rate", "tithe/y2.factor", "tithe/y2.cpi"] (by kernel_rfl) (by kernel_rfl)
theorem y2Force_row_tie : Rows.y2ForceRow.laidByTextAt .later Tryz.pinned [.data, .sentinel, .sentinel, .sentinel, .sentinel, .sentinel, .sentinel, .sentinel, .sentinel, .sentinel, .sentinel, .sentinel, .sentinel, .sentinel, .sentinel, .sentinel, .data, .data, .data, .data, .data, .data, .data, .data, .data, .data, .data, .data, .pinned] true :=
  OpenClaim.laidByTextAt_pinned rfl rfl tie2 rfl rfl rfl rfl (fun y hy _e => by
    simp only [Rows.y2ForceRow, List.zip_cons_cons, List.zip_nil_right, List.mem_cons, List.mem_nil_iff, or_false] at hy
    rcases hy with rfl | rfl | rfl | rfl | rfl | rfl | rfl | rfl | rfl | rfl | rfl | rfl | rfl | rfl | rfl | rfl | rfl | rfl | rfl | rfl | rfl | rfl | rfl | rfl | rfl | rfl | rfl | rfl | rfl
    · cases _e
    · cases _e
    · cases _e
    · cases _e
    · cases _e
    · cases _e
    · cases _e
    · cases _e
    · cases _e
    · cases _e
    · cases _e
    · cases _e
    · cases _e
    · cases _e
    · cases _e
    · cases _e
    · cases _e
    · cases _e
    · cases _e
    · cases _e
    · cases _e
    · cases _e
    · cases _e
    · cases _e
    · cases _e
    · cases _e
    · cases _e
    · cases _e
    · exact ⟨pin_laid_unicode_utf8_first, by kernel_rfl⟩) fits2
theorem lawInForceUpto_row_tie : Rows.lawInForceUptoRow.laidByTextAt .later Tryz.pinned [.data, .sentinel, .sentinel, .sentinel, .sentinel, .sentinel, .sentinel, .sentinel, .sentinel, .sentinel, .sentinel, .sentinel, .sentinel, .sentinel, .sentinel, .sentinel, .sentinel, .data, .data, .data, .data, .data, .data, .data, .data, .data, .data, .data, .data, .data, .data, .data, .data, .data, .data, .data, .data, .data, .data, .data, .pinned] true :=
  OpenClaim.laidByTextAt_pinned rfl rfl tie rfl rfl rfl rfl (fun y hy _e => by
    simp only [Rows.lawInForceUptoRow, List.zip_cons_cons, List.zip_nil_right, List.mem_cons, List.mem_nil_iff, or_false] at hy
    rcases hy with rfl | rfl | rfl | rfl | rfl | rfl | rfl | rfl | rfl | rfl | rfl | rfl | rfl | rfl | rfl | rfl | rfl | rfl | rfl | rfl | rfl | rfl | rfl | rfl | rfl | rfl | rfl | rfl | rfl | rfl | rfl | rfl | rfl | rfl | rfl | rfl | rfl | rfl | rfl | rfl | rfl
    · cases _e
    · cases _e
    · cases _e
    · cases _e
    · cases _e
    · cases _e
    · cases _e
    · cases _e
    · cases _e
    · cases _e
    · cases _e
    · cases _e
    · cases _e
    · cases _e
    · cases _e
    · cases _e
    · cases _e
    · cases _e
    · cases _e
    · cases _e
    · cases _e
    · cases _e
    · cases _e
    · cases _e
    · cases _e
    · cases _e
    · cases _e
    · cases _e
    · cases _e
    · cases _e
    · cases _e
    · cases _e
    · cases _e
    · cases _e
    · cases _e
    · cases _e
    · cases _e
    · cases _e
    · cases _e
    · cases _e
    · exact ⟨pin_laid_unicode_utf8_first, by kernel_rfl⟩) fits1
theorem y2ForceUpto_row_tie : Rows.y2ForceUptoRow.laidByTextAt .later Tryz.pinned [.data, .sentinel, .sentinel, .sentinel, .sentinel, .sentinel, .sentinel, .sentinel, .sentinel, .sentinel, .sentinel, .sentinel, .sentinel, .sentinel, .sentinel, .sentinel, .data, .data, .data, .data, .data, .data, .data, .data, .data, .data, .data, .data, .pinned] true :=
  OpenClaim.laidByTextAt_pinned rfl rfl tie2 rfl rfl rfl rfl (fun y hy _e => by
    simp only [Rows.y2ForceUptoRow, List.zip_cons_cons, List.zip_nil_right, List.mem_cons, List.mem_nil_iff, or_false] at hy
    rcases hy with rfl | rfl | rfl | rfl | rfl | rfl | rfl | rfl | rfl | rfl | rfl | rfl | rfl | rfl | rfl | rfl | rfl | rfl | rfl | rfl | rfl | rfl | rfl | rfl | rfl | rfl | rfl | rfl | rfl
    · cases _e
    · cases _e
    · cases _e
    · cases _e
    · cases _e
    · cases _e
    · cases _e
    · cases _e
    · cases _e
    · cases _e
    · cases _e
    · cases _e
    · cases _e
    · cases _e
    · cases _e
    · cases _e
    · cases _e
    · cases _e
    · cases _e
    · cases _e
    · cases _e
    · cases _e
    · cases _e
    · cases _e
    · cases _e
    · cases _e
    · cases _e
    · cases _e
    · exact ⟨pin_laid_unicode_utf8_first, by kernel_rfl⟩) fits2
theorem lawEachUpto_row_tie : Rows.lawEachUptoRow.laidByTextAt .later Tryz.pinned [.data, .sentinel, .sentinel, .sentinel, .sentinel, .sentinel, .sentinel, .sentinel, .sentinel, .sentinel, .sentinel, .sentinel, .sentinel, .sentinel, .sentinel, .sentinel, .sentinel, .data, .data, .data, .data, .data, .data, .data, .data, .data, .data, .data, .data, .data, .data, .data, .data, .data, .data, .data, .data, .data, .data, .data, .pinned] true :=
  OpenClaim.laidByTextAt_pinned rfl rfl tie rfl rfl rfl rfl (fun y hy _e => by
    simp only [Rows.lawEachUptoRow, List.zip_cons_cons, List.zip_nil_right, List.mem_cons, List.mem_nil_iff, or_false] at hy
    rcases hy with rfl | rfl | rfl | rfl | rfl | rfl | rfl | rfl | rfl | rfl | rfl | rfl | rfl | rfl | rfl | rfl | rfl | rfl | rfl | rfl | rfl | rfl | rfl | rfl | rfl | rfl | rfl | rfl | rfl | rfl | rfl | rfl | rfl | rfl | rfl | rfl | rfl | rfl | rfl | rfl | rfl
    · cases _e
    · cases _e
    · cases _e
    · cases _e
    · cases _e
    · cases _e
    · cases _e
    · cases _e
    · cases _e
    · cases _e
    · cases _e
    · cases _e
    · cases _e
    · cases _e
    · cases _e
    · cases _e
    · cases _e
    · cases _e
    · cases _e
    · cases _e
    · cases _e
    · cases _e
    · cases _e
    · cases _e
    · cases _e
    · cases _e
    · cases _e
    · cases _e
    · cases _e
    · cases _e
    · cases _e
    · cases _e
    · cases _e
    · cases _e
    · cases _e
    · cases _e
    · cases _e
    · cases _e
    · cases _e
    · cases _e
    · exact ⟨pin_laid_unicode_utf8_first, by kernel_rfl⟩) fits1
end Go.Proofs.YthfkajaeikhloaaGreatDoor
