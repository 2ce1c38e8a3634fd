/-
  NARROWER THAN 'FOR EVERY INPUT', by the rows' own cells (each row's printed sentence says how): Y4Repeals: laid · ThirdNotes: laid · Y4Follows: laid · Y2Leans: laid · ThirdFollows: laid · Y2Valid: laid.
  DERIVED. THE GIVEN ROWS OF THIS SEAT. 6 by the template 'for every input the law returns true; each argument reads behind the call as it read before'; 0 by the template 'total and deterministic' (their statements: YtoafcdnkoecgiaaDoorTotals.lean).
  GIVEN WITH THE SEED: the statements are not yours to turn. If you find one false, say at which input.
  Laid BY PROGRAM, IN A SANDBOX (cutbox-rows.mjs): the forced cells as the released guide's own fill.sh prints them over the translation 5f625e9943bad80f… (all of the seat's roots in one cut). By AI agents, Wed Nov 11 2026. No macro, syntax, notation, axiom, sorry.
-/
import Derived.Test.YtoafcdnkoecgiaaDoorChecked
import GoSem.PinnedTables
import GoSem.Claim
import GoSem.ClaimJoined
import GoSem.ClaimMapViews
import Derived.JoinedTies
import Derived.KernelRfl
namespace Go.Proofs.YtoafcdnkoecgiaaDoor
/- THE CELL 'sum', in the pinned program and in every row, IS THE sha256 OF THE DUMP (.gsa) THAT YtoafcdnkoecgiaaDoorProg.lean LOADS. Nothing in Lean hashes anything: it is a label: what it is worth is what the hold of that sum in a sandbox is worth. -/
noncomputable def Tryd.pinned : Pinned := { name := "ytoafcdnkoecgiaadoor", sum := "5f625e9943bad80f4396d56f0bf4b7ed3c1c46f101e05684355e13fadacf0f4f", checked := Tryd.checked }
namespace Rows
def none {H : Type} : Left H := { results := [], args := [] }

/- WHAT THE LISTED PACKAGE-LEVEL VARIABLES READ AS WHEN THE CALL BEGINS. Each datum BY PROGRAM (the guide's laid-datum.mjs) off the statement by which the dump's own 'gosem.cut.vars' lays the variable. In a bare row this is a premise. The card (YtoafcdnkoecgiaaDoorCards.lean) ties it to the program's text. -/
def laid_tithe_api_ErrRange {H : Type} : DataW H := .iface "*errors.errorString" (.ptr (.agg [.lit (.string [97, 32, 110, 117, 109, 98, 101, 114, 32, 98, 101, 121, 111, 110, 100, 32, 116, 104, 101, 32, 114, 97, 110, 103, 101])]))
def laid_tithe_api_ErrZero {H : Type} : DataW H := .iface "*errors.errorString" (.ptr (.agg [.lit (.string [100, 105, 118, 105, 100, 101, 100, 32, 98, 121, 32, 122, 101, 114, 111])]))
def laid_tithe_api_ErrScale {H : Type} : DataW H := .iface "*errors.errorString" (.ptr (.agg [.lit (.string [110, 111, 32, 115, 99, 97, 108, 101])]))
def laid_tithe_y1_cpi {H : Type} : DataW H := .agg [.lit (.int .i64 1000)]
def laid_tithe_y1_factor {H : Type} : DataW H := .agg [.lit (.int .i64 1), .lit (.int .i64 1)]
def laid_tithe_y1_top {H : Type} : DataW H := .agg [.lit (.int .i64 10000), .lit (.int .i64 40000), .lit (.int .i64 90000), .lit (.int .i64 18000), .lit (.int .i64 70000), .lit (.int .i64 150000)]
def laid_tithe_y1_rate {H : Type} : DataW H := .agg [.lit (.int .i64 1000), .lit (.int .i64 1500), .lit (.int .i64 2800), .lit (.int .i64 3500)]
def laid_tithe_y1_phase {H : Type} : DataW H := .agg [.lit (.int .i64 60000)]
def laid_tithe_y2_phase {H : Type} : DataW H := .agg [.lit (.int .i64 60000)]
def laid_tithe_y2_credit {H : Type} : DataW H := .agg [.lit (.int .i64 550), .lit (.int .i64 975)]
def laid_tithe_y2_standard {H : Type} : DataW H := .agg [.lit (.int .i64 4100), .lit (.int .i64 7150)]
def laid_tithe_y2_top {H : Type} : DataW H := .agg [.lit (.int .i64 10200), .lit (.int .i64 40900), .lit (.int .i64 92100), .lit (.int .i64 18400), .lit (.int .i64 71600), .lit (.int .i64 153600)]
def laid_tithe_y2_rate {H : Type} : DataW H := .agg [.lit (.int .i64 950), .lit (.int .i64 1500), .lit (.int .i64 2800), .lit (.int .i64 3500)]
def laid_tithe_y2_factor {H : Type} : DataW H := .agg [.lit (.int .i64 128), .lit (.int .i64 125)]
def laid_tithe_y2_cpi {H : Type} : DataW H := .agg [.lit (.int .i64 1024)]
def laid_tithe_y3_phase {H : Type} : DataW H := .agg [.lit (.int .i64 62000)]
def laid_tithe_y3_standard {H : Type} : DataW H := .agg [.lit (.int .i64 4250), .lit (.int .i64 7450)]
def laid_tithe_y3_top {H : Type} : DataW H := .agg [.lit (.int .i64 10500), .lit (.int .i64 42300), .lit (.int .i64 95400), .lit (.int .i64 19000), .lit (.int .i64 74100), .lit (.int .i64 159100)]
def laid_tithe_y4_credit {H : Type} : DataW H := .agg [.lit (.int .i64 575), .lit (.int .i64 1013)]
def laid_tithe_y4_phase {H : Type} : DataW H := .agg [.lit (.int .i64 62000)]
def laid_tithe_y4_top {H : Type} : DataW H := .agg [.lit (.int .i64 10500), .lit (.int .i64 42300), .lit (.int .i64 95400), .lit (.int .i64 19000), .lit (.int .i64 74100), .lit (.int .i64 159100)]
def laid_tithe_y4_factor {H : Type} : DataW H := .agg [.lit (.int .i64 1058), .lit (.int .i64 1061)]
def laid_tithe_y4_cpi {H : Type} : DataW H := .agg [.lit (.int .i64 1058)]
def laid_tithe_y4_standard {H : Type} : DataW H := .agg [.lit (.int .i64 4250), .lit (.int .i64 7450)]
def laid_tithe_y4_rate {H : Type} : DataW H := .agg [.lit (.int .i64 1000), .lit (.int .i64 1500), .lit (.int .i64 2800), .lit (.int .i64 3960)]
def laid_tithe_y3_factor {H : Type} : DataW H := .agg [.lit (.int .i64 1061), .lit (.int .i64 1024)]
def laid_tithe_api_ErrFrac {H : Type} : DataW H := .iface "*errors.errorString" (.ptr (.agg [.lit (.string [110, 111, 32, 102, 114, 97, 99, 116, 105, 111, 110])]))
def laid_tithe_api_ErrRound {H : Type} : DataW H := .iface "*errors.errorString" (.ptr (.agg [.lit (.string [110, 111, 32, 114, 111, 117, 110, 100, 105, 110, 103])]))
def laid_unicode_utf8_acceptRanges {H : Type} : DataW H := .agg [.agg [.lit (.int .u8 128), .lit (.int .u8 191)], .agg [.lit (.int .u8 160), .lit (.int .u8 191)], .agg [.lit (.int .u8 128), .lit (.int .u8 159)], .agg [.lit (.int .u8 144), .lit (.int .u8 191)], .agg [.lit (.int .u8 128), .lit (.int .u8 143)], .agg [.lit (.int .u8 0), .lit (.int .u8 0)], .agg [.lit (.int .u8 0), .lit (.int .u8 0)], .agg [.lit (.int .u8 0), .lit (.int .u8 0)], .agg [.lit (.int .u8 0), .lit (.int .u8 0)], .agg [.lit (.int .u8 0), .lit (.int .u8 0)], .agg [.lit (.int .u8 0), .lit (.int .u8 0)], .agg [.lit (.int .u8 0), .lit (.int .u8 0)], .agg [.lit (.int .u8 0), .lit (.int .u8 0)], .agg [.lit (.int .u8 0), .lit (.int .u8 0)], .agg [.lit (.int .u8 0), .lit (.int .u8 0)], .agg [.lit (.int .u8 0), .lit (.int .u8 0)]]
def laid_tithe_api_ErrDay {H : Type} : DataW H := .iface "*errors.errorString" (.ptr (.agg [.lit (.string [110, 111, 32, 100, 97, 121])]))
def laid_tithe_api_ErrSpan {H : Type} : DataW H := .iface "*errors.errorString" (.ptr (.agg [.lit (.string [110, 111, 32, 115, 112, 97, 110])]))
def laid_tithe_api_ErrName {H : Type} : DataW H := .iface "*errors.errorString" (.ptr (.agg [.lit (.string [110, 111, 32, 110, 97, 109, 101])]))
def laid_tithe_api_ErrKind {H : Type} : DataW H := .iface "*errors.errorString" (.ptr (.agg [.lit (.string [111, 102, 32, 97, 110, 111, 116, 104, 101, 114, 32, 107, 105, 110, 100])]))
def laid_tithe_api_ErrProv {H : Type} : DataW H := .iface "*errors.errorString" (.ptr (.agg [.lit (.string [110, 111, 32, 112, 114, 111, 118, 105, 115, 105, 111, 110])]))
def laid_tithe_api_ErrLong {H : Type} : DataW H := .iface "*errors.errorString" (.ptr (.agg [.lit (.string [116, 111, 111, 32, 108, 111, 110, 103])]))
/-- One of Go's own tables, pinned by name: the form's constant. -/
def laid_unicode_utf8_first : DataW Unit := Go.Pinned.utf8First

/-- 'tithelaw20.Y4Repeals': WHATEVER THE INPUT: true; the input reads as it did. -/
def y4RepealsSpec : ChangeSpec := { name := "y4Repeals", fn := fun _ => fun
  | [d] => { results := [.lit (.bool true)], args := [d] }
  | _ => none }
def y4RepealsRow : OpenClaim := { program := "ytoafcdnkoecgiaadoor", sum := "5f625e9943bad80f4396d56f0bf4b7ed3c1c46f101e05684355e13fadacf0f4f", func := "tithe/tithelaw20.Y4Repeals", spec := "y4Repeals", unfollowed := true, recurses := true, named := ["tithe/y4.cpi", "tithe/y4.factor", "tithe/y4.standard", "tithe/y4.top", "tithe/y4.rate", "tithe/y4.credit", "tithe/y4.phase", "tithe/y1.cpi", "tithe/y1.factor", "tithe/y1.top", "tithe/y1.rate", "tithe/y1.phase", "tithe/y3.standard", "tithe/y3.phase", "tithe/y2.cpi", "tithe/y2.factor", "tithe/y2.standard", "tithe/y2.top", "tithe/y2.rate", "tithe/y2.credit", "tithe/y2.phase", "tithe/y3.top", "tithe/api.ErrZero", "tithe/api.ErrScale", "tithe/api.ErrRange"], apart := false, laid := [("tithe/api.ErrRange", laid_tithe_api_ErrRange), ("tithe/api.ErrZero", laid_tithe_api_ErrZero), ("tithe/api.ErrScale", laid_tithe_api_ErrScale), ("tithe/y1.cpi", laid_tithe_y1_cpi), ("tithe/y1.factor", laid_tithe_y1_factor), ("tithe/y1.top", laid_tithe_y1_top), ("tithe/y1.rate", laid_tithe_y1_rate), ("tithe/y1.phase", laid_tithe_y1_phase), ("tithe/y2.phase", laid_tithe_y2_phase), ("tithe/y2.credit", laid_tithe_y2_credit), ("tithe/y2.standard", laid_tithe_y2_standard), ("tithe/y2.top", laid_tithe_y2_top), ("tithe/y2.rate", laid_tithe_y2_rate), ("tithe/y2.factor", laid_tithe_y2_factor), ("tithe/y2.cpi", laid_tithe_y2_cpi), ("tithe/y3.phase", laid_tithe_y3_phase), ("tithe/y3.standard", laid_tithe_y3_standard), ("tithe/y3.top", laid_tithe_y3_top), ("tithe/y4.credit", laid_tithe_y4_credit), ("tithe/y4.phase", laid_tithe_y4_phase), ("tithe/y4.top", laid_tithe_y4_top), ("tithe/y4.factor", laid_tithe_y4_factor), ("tithe/y4.cpi", laid_tithe_y4_cpi), ("tithe/y4.standard", laid_tithe_y4_standard), ("tithe/y4.rate", laid_tithe_y4_rate)] }
def Y4RepealsSaid : Prop := y4RepealsRow.holds Tryd.pinned (OpenSpec.ofChange y4RepealsSpec)

/-- ITS FALSE NEIGHBOUR: 'it returns false'. Refute it at one input. -/
def y4RepealsWrong : ChangeSpec := { name := "y4Repeals", fn := fun _ => fun
  | [d] => { results := [.lit (.bool false)], args := [d] }
  | _ => none }
def Y4RepealsWrongFalsely : Prop := y4RepealsRow.holds Tryd.pinned (OpenSpec.ofChange y4RepealsWrong)

/-- 'tithelaw19.ThirdNotes': WHATEVER THE INPUT: true; the input reads as it did. -/
def thirdNotesSpec : ChangeSpec := { name := "thirdNotes", fn := fun _ => fun
  | [d] => { results := [.lit (.bool true)], args := [d] }
  | _ => none }
def thirdNotesRow : OpenClaim := { program := "ytoafcdnkoecgiaadoor", sum := "5f625e9943bad80f4396d56f0bf4b7ed3c1c46f101e05684355e13fadacf0f4f", func := "tithe/tithelaw19.ThirdNotes", spec := "thirdNotes", unfollowed := true, recurses := true, named := ["tithe/y2.cpi", "tithe/y2.factor", "tithe/y2.standard", "tithe/y2.top", "tithe/y2.rate", "tithe/y2.credit", "tithe/y2.phase", "tithe/y1.cpi", "tithe/y1.factor", "tithe/y1.top", "tithe/y1.rate", "tithe/y1.phase", "tithe/y3.factor", "tithe/y3.standard", "tithe/y3.top", "tithe/y3.phase", "tithe/api.ErrZero", "tithe/api.ErrScale", "tithe/api.ErrRange"], apart := false, laid := [("tithe/api.ErrRange", laid_tithe_api_ErrRange), ("tithe/api.ErrZero", laid_tithe_api_ErrZero), ("tithe/api.ErrScale", laid_tithe_api_ErrScale), ("tithe/y1.cpi", laid_tithe_y1_cpi), ("tithe/y1.factor", laid_tithe_y1_factor), ("tithe/y1.top", laid_tithe_y1_top), ("tithe/y1.rate", laid_tithe_y1_rate), ("tithe/y1.phase", laid_tithe_y1_phase), ("tithe/y2.phase", laid_tithe_y2_phase), ("tithe/y2.credit", laid_tithe_y2_credit), ("tithe/y2.standard", laid_tithe_y2_standard), ("tithe/y2.top", laid_tithe_y2_top), ("tithe/y2.rate", laid_tithe_y2_rate), ("tithe/y2.factor", laid_tithe_y2_factor), ("tithe/y2.cpi", laid_tithe_y2_cpi), ("tithe/y3.phase", laid_tithe_y3_phase), ("tithe/y3.standard", laid_tithe_y3_standard), ("tithe/y3.top", laid_tithe_y3_top), ("tithe/y3.factor", laid_tithe_y3_factor)] }
def ThirdNotesSaid : Prop := thirdNotesRow.holds Tryd.pinned (OpenSpec.ofChange thirdNotesSpec)

/-- ITS FALSE NEIGHBOUR: 'it returns false'. Refute it at one input. -/
def thirdNotesWrong : ChangeSpec := { name := "thirdNotes", fn := fun _ => fun
  | [d] => { results := [.lit (.bool false)], args := [d] }
  | _ => none }
def ThirdNotesWrongFalsely : Prop := thirdNotesRow.holds Tryd.pinned (OpenSpec.ofChange thirdNotesWrong)

/-- 'tithelaw20.Y4Follows': WHATEVER THE INPUT: true; the input reads as it did. -/
def y4FollowsSpec : ChangeSpec := { name := "y4Follows", fn := fun _ => fun
  | [d] => { results := [.lit (.bool true)], args := [d] }
  | _ => none }
def y4FollowsRow : OpenClaim := { program := "ytoafcdnkoecgiaadoor", sum := "5f625e9943bad80f4396d56f0bf4b7ed3c1c46f101e05684355e13fadacf0f4f", func := "tithe/tithelaw20.Y4Follows", spec := "y4Follows", unfollowed := true, recurses := true, named := ["tithe/y4.cpi", "tithe/y4.factor", "tithe/y4.standard", "tithe/y4.top", "tithe/y4.rate", "tithe/y4.credit", "tithe/y4.phase", "tithe/y1.cpi", "tithe/y1.factor", "tithe/y1.top", "tithe/y1.rate", "tithe/y1.phase", "tithe/y2.cpi", "tithe/y2.factor", "tithe/y2.standard", "tithe/y2.top", "tithe/y2.rate", "tithe/y2.credit", "tithe/y2.phase", "tithe/y3.factor", "tithe/y3.standard", "tithe/y3.top", "tithe/y3.phase", "tithe/api.ErrZero", "tithe/api.ErrRange", "tithe/api.ErrFrac", "tithe/api.ErrRound", "math/bits.divideError", "math/bits.overflowError"], apart := false, laid := [("tithe/api.ErrRange", laid_tithe_api_ErrRange), ("tithe/api.ErrZero", laid_tithe_api_ErrZero), ("tithe/api.ErrFrac", laid_tithe_api_ErrFrac), ("tithe/api.ErrRound", laid_tithe_api_ErrRound), ("tithe/y1.cpi", laid_tithe_y1_cpi), ("tithe/y1.factor", laid_tithe_y1_factor), ("tithe/y1.top", laid_tithe_y1_top), ("tithe/y1.rate", laid_tithe_y1_rate), ("tithe/y1.phase", laid_tithe_y1_phase), ("tithe/y2.phase", laid_tithe_y2_phase), ("tithe/y2.credit", laid_tithe_y2_credit), ("tithe/y2.standard", laid_tithe_y2_standard), ("tithe/y2.top", laid_tithe_y2_top), ("tithe/y2.rate", laid_tithe_y2_rate), ("tithe/y2.factor", laid_tithe_y2_factor), ("tithe/y2.cpi", laid_tithe_y2_cpi), ("tithe/y3.phase", laid_tithe_y3_phase), ("tithe/y3.standard", laid_tithe_y3_standard), ("tithe/y3.top", laid_tithe_y3_top), ("tithe/y3.factor", laid_tithe_y3_factor), ("tithe/y4.credit", laid_tithe_y4_credit), ("tithe/y4.phase", laid_tithe_y4_phase), ("tithe/y4.top", laid_tithe_y4_top), ("tithe/y4.factor", laid_tithe_y4_factor), ("tithe/y4.cpi", laid_tithe_y4_cpi), ("tithe/y4.standard", laid_tithe_y4_standard), ("tithe/y4.rate", laid_tithe_y4_rate)] }
def Y4FollowsSaid : Prop := y4FollowsRow.holds Tryd.pinned (OpenSpec.ofChange y4FollowsSpec)

/-- ITS FALSE NEIGHBOUR: 'it returns false'. Refute it at one input. -/
def y4FollowsWrong : ChangeSpec := { name := "y4Follows", fn := fun _ => fun
  | [d] => { results := [.lit (.bool false)], args := [d] }
  | _ => none }
def Y4FollowsWrongFalsely : Prop := y4FollowsRow.holds Tryd.pinned (OpenSpec.ofChange y4FollowsWrong)

/-- 'tithelaw18.Y2Leans': WHATEVER THE INPUT: true; the input reads as it did. -/
def y2LeansSpec : ChangeSpec := { name := "y2Leans", fn := fun _ => fun
  | [d] => { results := [.lit (.bool true)], args := [d] }
  | _ => none }
def y2LeansRow : OpenClaim := { program := "ytoafcdnkoecgiaadoor", sum := "5f625e9943bad80f4396d56f0bf4b7ed3c1c46f101e05684355e13fadacf0f4f", func := "tithe/tithelaw18.Y2Leans", spec := "y2Leans", unfollowed := true, recurses := true, named := ["tithe/y2.cpi", "tithe/y2.factor", "tithe/y2.standard", "tithe/y2.top", "tithe/y2.rate", "tithe/y2.credit", "tithe/y2.phase", "tithe/y1.cpi", "tithe/y1.factor", "tithe/y1.top", "tithe/y1.rate", "tithe/y1.phase", "tithe/api.ErrZero", "tithe/api.ErrRange", "tithe/api.ErrScale", "tithe/api.ErrFrac", "tithe/api.ErrRound", "math/bits.divideError", "math/bits.overflowError"], apart := false, laid := [("tithe/api.ErrRange", laid_tithe_api_ErrRange), ("tithe/api.ErrZero", laid_tithe_api_ErrZero), ("tithe/api.ErrFrac", laid_tithe_api_ErrFrac), ("tithe/api.ErrRound", laid_tithe_api_ErrRound), ("tithe/api.ErrScale", laid_tithe_api_ErrScale), ("tithe/y1.cpi", laid_tithe_y1_cpi), ("tithe/y1.factor", laid_tithe_y1_factor), ("tithe/y1.top", laid_tithe_y1_top), ("tithe/y1.rate", laid_tithe_y1_rate), ("tithe/y1.phase", laid_tithe_y1_phase), ("tithe/y2.phase", laid_tithe_y2_phase), ("tithe/y2.credit", laid_tithe_y2_credit), ("tithe/y2.standard", laid_tithe_y2_standard), ("tithe/y2.top", laid_tithe_y2_top), ("tithe/y2.rate", laid_tithe_y2_rate), ("tithe/y2.factor", laid_tithe_y2_factor), ("tithe/y2.cpi", laid_tithe_y2_cpi)] }
def Y2LeansSaid : Prop := y2LeansRow.holds Tryd.pinned (OpenSpec.ofChange y2LeansSpec)

/-- ITS FALSE NEIGHBOUR: 'it returns false'. Refute it at one input. -/
def y2LeansWrong : ChangeSpec := { name := "y2Leans", fn := fun _ => fun
  | [d] => { results := [.lit (.bool false)], args := [d] }
  | _ => none }
def Y2LeansWrongFalsely : Prop := y2LeansRow.holds Tryd.pinned (OpenSpec.ofChange y2LeansWrong)

/-- 'tithelaw19.ThirdFollows': WHATEVER THE INPUT: true; the input reads as it did. -/
def thirdFollowsSpec : ChangeSpec := { name := "thirdFollows", fn := fun _ => fun
  | [d] => { results := [.lit (.bool true)], args := [d] }
  | _ => none }
def thirdFollowsRow : OpenClaim := { program := "ytoafcdnkoecgiaadoor", sum := "5f625e9943bad80f4396d56f0bf4b7ed3c1c46f101e05684355e13fadacf0f4f", func := "tithe/tithelaw19.ThirdFollows", spec := "thirdFollows", unfollowed := true, recurses := true, named := ["tithe/y2.cpi", "tithe/y2.factor", "tithe/y2.standard", "tithe/y2.top", "tithe/y2.rate", "tithe/y2.credit", "tithe/y2.phase", "tithe/y1.cpi", "tithe/y1.factor", "tithe/y1.top", "tithe/y1.rate", "tithe/y1.phase", "tithe/y3.factor", "tithe/y3.standard", "tithe/y3.top", "tithe/y3.phase", "tithe/api.ErrZero", "tithe/api.ErrScale", "tithe/api.ErrRange", "tithe/api.ErrFrac", "tithe/api.ErrRound", "math/bits.divideError", "math/bits.overflowError"], apart := false, laid := [("tithe/api.ErrRange", laid_tithe_api_ErrRange), ("tithe/api.ErrZero", laid_tithe_api_ErrZero), ("tithe/api.ErrFrac", laid_tithe_api_ErrFrac), ("tithe/api.ErrRound", laid_tithe_api_ErrRound), ("tithe/api.ErrScale", laid_tithe_api_ErrScale), ("tithe/y1.cpi", laid_tithe_y1_cpi), ("tithe/y1.factor", laid_tithe_y1_factor), ("tithe/y1.top", laid_tithe_y1_top), ("tithe/y1.rate", laid_tithe_y1_rate), ("tithe/y1.phase", laid_tithe_y1_phase), ("tithe/y2.phase", laid_tithe_y2_phase), ("tithe/y2.credit", laid_tithe_y2_credit), ("tithe/y2.standard", laid_tithe_y2_standard), ("tithe/y2.top", laid_tithe_y2_top), ("tithe/y2.rate", laid_tithe_y2_rate), ("tithe/y2.factor", laid_tithe_y2_factor), ("tithe/y2.cpi", laid_tithe_y2_cpi), ("tithe/y3.phase", laid_tithe_y3_phase), ("tithe/y3.standard", laid_tithe_y3_standard), ("tithe/y3.top", laid_tithe_y3_top), ("tithe/y3.factor", laid_tithe_y3_factor)] }
def ThirdFollowsSaid : Prop := thirdFollowsRow.holds Tryd.pinned (OpenSpec.ofChange thirdFollowsSpec)

/-- ITS FALSE NEIGHBOUR: 'it returns false'. Refute it at one input. -/
def thirdFollowsWrong : ChangeSpec := { name := "thirdFollows", fn := fun _ => fun
  | [d] => { results := [.lit (.bool false)], args := [d] }
  | _ => none }
def ThirdFollowsWrongFalsely : Prop := thirdFollowsRow.holds Tryd.pinned (OpenSpec.ofChange thirdFollowsWrong)

/-- 'tithelaw18.Y2Valid': WHATEVER THE INPUT: true; the input reads as it did. -/
def y2ValidSpec : ChangeSpec := { name := "y2Valid", fn := fun _ => fun
  | [d] => { results := [.lit (.bool true)], args := [d] }
  | _ => none }
def y2ValidRow : OpenClaim := { program := "ytoafcdnkoecgiaadoor", sum := "5f625e9943bad80f4396d56f0bf4b7ed3c1c46f101e05684355e13fadacf0f4f", func := "tithe/tithelaw18.Y2Valid", spec := "y2Valid", inPlace := ["internal/bytealg.CountString", "internal/bytealg.IndexByteString", "internal/bytealg.IndexString"], unfollowed := true, recurses := true, named := ["tithe/y2.cpi", "tithe/y2.factor", "tithe/y2.standard", "tithe/y2.top", "tithe/y2.rate", "tithe/y2.credit", "tithe/y2.phase", "tithe/y1.cpi", "tithe/y1.factor", "tithe/y1.top", "tithe/y1.rate", "tithe/y1.phase", "tithe/api.ErrZero", "tithe/api.ErrRange", "tithe/api.ErrScale", "tithe/api.ErrName", "tithe/api.ErrSpan", "tithe/api.ErrDay", "tithe/api.ErrProv", "tithe/api.ErrKind", "unicode/utf8.first", "unicode/utf8.acceptRanges", "internal/bytealg.MaxLen", "tithe/api.ErrFrac", "tithe/api.ErrLong", "tithe/api.ErrRound"], apart := false, laid := [("unicode/utf8.acceptRanges", laid_unicode_utf8_acceptRanges), ("tithe/api.ErrRange", laid_tithe_api_ErrRange), ("tithe/api.ErrZero", laid_tithe_api_ErrZero), ("tithe/api.ErrFrac", laid_tithe_api_ErrFrac), ("tithe/api.ErrRound", laid_tithe_api_ErrRound), ("tithe/api.ErrDay", laid_tithe_api_ErrDay), ("tithe/api.ErrSpan", laid_tithe_api_ErrSpan), ("tithe/api.ErrName", laid_tithe_api_ErrName), ("tithe/api.ErrKind", laid_tithe_api_ErrKind), ("tithe/api.ErrScale", laid_tithe_api_ErrScale), ("tithe/api.ErrProv", laid_tithe_api_ErrProv), ("tithe/api.ErrLong", laid_tithe_api_ErrLong), ("tithe/y1.cpi", laid_tithe_y1_cpi), ("tithe/y1.factor", laid_tithe_y1_factor), ("tithe/y1.top", laid_tithe_y1_top), ("tithe/y1.rate", laid_tithe_y1_rate), ("tithe/y1.phase", laid_tithe_y1_phase), ("tithe/y2.phase", laid_tithe_y2_phase), ("tithe/y2.credit", laid_tithe_y2_credit), ("tithe/y2.standard", laid_tithe_y2_standard), ("tithe/y2.top", laid_tithe_y2_top), ("tithe/y2.rate", laid_tithe_y2_rate), ("tithe/y2.factor", laid_tithe_y2_factor), ("tithe/y2.cpi", laid_tithe_y2_cpi), ("unicode/utf8.first", laid_unicode_utf8_first)] }
def Y2ValidSaid : Prop := y2ValidRow.holds Tryd.pinned (OpenSpec.ofChange y2ValidSpec)

/-- ITS FALSE NEIGHBOUR: 'it returns false'. Refute it at one input. -/
def y2ValidWrong : ChangeSpec := { name := "y2Valid", fn := fun _ => fun
  | [d] => { results := [.lit (.bool false)], args := [d] }
  | _ => none }
def Y2ValidWrongFalsely : Prop := y2ValidRow.holds Tryd.pinned (OpenSpec.ofChange y2ValidWrong)

/- THE SECOND FORM. 'bulk': how many values and letters a reading holds, each counted each time it is reached (what is shared counts as often as it is met; a slice's spare places count too). A statement '..UptoSaid' is the law's where the arguments, and the package variables that the reading takes, are together of bulk at most 1048576: NARROWER than '..Said'. Prove '..Said' where nothing that the law and all that it calls make is longer than what came in: it says more and counts as full. Else prove '..UptoSaid'. A law counts once. -/
mutual
def uptoBulk {H : Type} : DataW H → Nat
  | .lit (.string bytes) => bytes.length + 1
  | .lit _ => 1
  | .nil => 1
  | .ptr d => uptoBulk d + 1
  | .slice elems spare => uptoBulkAll elems + uptoBulkAll spare + 1
  | .agg parts => uptoBulkAll parts + 1
  | .iface _ d => uptoBulk d + 1
  | .map entries => uptoBulkEntries entries + 1
  | .held _ => 1
def uptoBulkAll {H : Type} : List (DataW H) → Nat
  | [] => 0
  | d :: r => uptoBulk d + uptoBulkAll r
def uptoBulkEntries {H : Type} : List (Lit × DataW H) → Nat
  | [] => 0
  | x :: r => uptoBulkEntry x + uptoBulkEntries r
def uptoBulkEntry {H : Type} : Lit × DataW H → Nat
  | (.string bytes, d) => bytes.length + uptoBulk d + 1
  | (_, d) => uptoBulk d + 1
 end
def uptoSmall : (H : Type) → List (DataW H) → Bool := fun _ ds => decide (uptoBulkAll ds ≤ 1048576)
def OpenSpec.upto (s : _root_.Go.ChangeSpec) : _root_.Go.OpenSpec := { _root_.Go.OpenSpec.ofChange s with cond := some uptoSmall }

/-- 'tithelaw20.Y4Repeals', WHERE WHAT IT READS IS OF BULK AT MOST 1048576: true; the input reads as it did. -/
def y4RepealsUptoRow : OpenClaim := { program := "ytoafcdnkoecgiaadoor", sum := "5f625e9943bad80f4396d56f0bf4b7ed3c1c46f101e05684355e13fadacf0f4f", func := "tithe/tithelaw20.Y4Repeals", spec := "y4Repeals", unfollowed := true, recurses := true, named := ["tithe/y4.cpi", "tithe/y4.factor", "tithe/y4.standard", "tithe/y4.top", "tithe/y4.rate", "tithe/y4.credit", "tithe/y4.phase", "tithe/y1.cpi", "tithe/y1.factor", "tithe/y1.top", "tithe/y1.rate", "tithe/y1.phase", "tithe/y3.standard", "tithe/y3.phase", "tithe/y2.cpi", "tithe/y2.factor", "tithe/y2.standard", "tithe/y2.top", "tithe/y2.rate", "tithe/y2.credit", "tithe/y2.phase", "tithe/y3.top", "tithe/api.ErrZero", "tithe/api.ErrScale", "tithe/api.ErrRange"], apart := false, laid := [("tithe/api.ErrRange", laid_tithe_api_ErrRange), ("tithe/api.ErrZero", laid_tithe_api_ErrZero), ("tithe/api.ErrScale", laid_tithe_api_ErrScale), ("tithe/y1.cpi", laid_tithe_y1_cpi), ("tithe/y1.factor", laid_tithe_y1_factor), ("tithe/y1.top", laid_tithe_y1_top), ("tithe/y1.rate", laid_tithe_y1_rate), ("tithe/y1.phase", laid_tithe_y1_phase), ("tithe/y2.phase", laid_tithe_y2_phase), ("tithe/y2.credit", laid_tithe_y2_credit), ("tithe/y2.standard", laid_tithe_y2_standard), ("tithe/y2.top", laid_tithe_y2_top), ("tithe/y2.rate", laid_tithe_y2_rate), ("tithe/y2.factor", laid_tithe_y2_factor), ("tithe/y2.cpi", laid_tithe_y2_cpi), ("tithe/y3.phase", laid_tithe_y3_phase), ("tithe/y3.standard", laid_tithe_y3_standard), ("tithe/y3.top", laid_tithe_y3_top), ("tithe/y4.credit", laid_tithe_y4_credit), ("tithe/y4.phase", laid_tithe_y4_phase), ("tithe/y4.top", laid_tithe_y4_top), ("tithe/y4.factor", laid_tithe_y4_factor), ("tithe/y4.cpi", laid_tithe_y4_cpi), ("tithe/y4.standard", laid_tithe_y4_standard), ("tithe/y4.rate", laid_tithe_y4_rate)], narrowed := true }
def Y4RepealsUptoSaid : Prop := y4RepealsUptoRow.holds Tryd.pinned (OpenSpec.upto y4RepealsSpec)

/-- 'tithelaw19.ThirdNotes', WHERE WHAT IT READS IS OF BULK AT MOST 1048576: true; the input reads as it did. -/
def thirdNotesUptoRow : OpenClaim := { program := "ytoafcdnkoecgiaadoor", sum := "5f625e9943bad80f4396d56f0bf4b7ed3c1c46f101e05684355e13fadacf0f4f", func := "tithe/tithelaw19.ThirdNotes", spec := "thirdNotes", unfollowed := true, recurses := true, named := ["tithe/y2.cpi", "tithe/y2.factor", "tithe/y2.standard", "tithe/y2.top", "tithe/y2.rate", "tithe/y2.credit", "tithe/y2.phase", "tithe/y1.cpi", "tithe/y1.factor", "tithe/y1.top", "tithe/y1.rate", "tithe/y1.phase", "tithe/y3.factor", "tithe/y3.standard", "tithe/y3.top", "tithe/y3.phase", "tithe/api.ErrZero", "tithe/api.ErrScale", "tithe/api.ErrRange"], apart := false, laid := [("tithe/api.ErrRange", laid_tithe_api_ErrRange), ("tithe/api.ErrZero", laid_tithe_api_ErrZero), ("tithe/api.ErrScale", laid_tithe_api_ErrScale), ("tithe/y1.cpi", laid_tithe_y1_cpi), ("tithe/y1.factor", laid_tithe_y1_factor), ("tithe/y1.top", laid_tithe_y1_top), ("tithe/y1.rate", laid_tithe_y1_rate), ("tithe/y1.phase", laid_tithe_y1_phase), ("tithe/y2.phase", laid_tithe_y2_phase), ("tithe/y2.credit", laid_tithe_y2_credit), ("tithe/y2.standard", laid_tithe_y2_standard), ("tithe/y2.top", laid_tithe_y2_top), ("tithe/y2.rate", laid_tithe_y2_rate), ("tithe/y2.factor", laid_tithe_y2_factor), ("tithe/y2.cpi", laid_tithe_y2_cpi), ("tithe/y3.phase", laid_tithe_y3_phase), ("tithe/y3.standard", laid_tithe_y3_standard), ("tithe/y3.top", laid_tithe_y3_top), ("tithe/y3.factor", laid_tithe_y3_factor)], narrowed := true }
def ThirdNotesUptoSaid : Prop := thirdNotesUptoRow.holds Tryd.pinned (OpenSpec.upto thirdNotesSpec)

/-- 'tithelaw20.Y4Follows', WHERE WHAT IT READS IS OF BULK AT MOST 1048576: true; the input reads as it did. -/
def y4FollowsUptoRow : OpenClaim := { program := "ytoafcdnkoecgiaadoor", sum := "5f625e9943bad80f4396d56f0bf4b7ed3c1c46f101e05684355e13fadacf0f4f", func := "tithe/tithelaw20.Y4Follows", spec := "y4Follows", unfollowed := true, recurses := true, named := ["tithe/y4.cpi", "tithe/y4.factor", "tithe/y4.standard", "tithe/y4.top", "tithe/y4.rate", "tithe/y4.credit", "tithe/y4.phase", "tithe/y1.cpi", "tithe/y1.factor", "tithe/y1.top", "tithe/y1.rate", "tithe/y1.phase", "tithe/y2.cpi", "tithe/y2.factor", "tithe/y2.standard", "tithe/y2.top", "tithe/y2.rate", "tithe/y2.credit", "tithe/y2.phase", "tithe/y3.factor", "tithe/y3.standard", "tithe/y3.top", "tithe/y3.phase", "tithe/api.ErrZero", "tithe/api.ErrRange", "tithe/api.ErrFrac", "tithe/api.ErrRound", "math/bits.divideError", "math/bits.overflowError"], apart := false, laid := [("tithe/api.ErrRange", laid_tithe_api_ErrRange), ("tithe/api.ErrZero", laid_tithe_api_ErrZero), ("tithe/api.ErrFrac", laid_tithe_api_ErrFrac), ("tithe/api.ErrRound", laid_tithe_api_ErrRound), ("tithe/y1.cpi", laid_tithe_y1_cpi), ("tithe/y1.factor", laid_tithe_y1_factor), ("tithe/y1.top", laid_tithe_y1_top), ("tithe/y1.rate", laid_tithe_y1_rate), ("tithe/y1.phase", laid_tithe_y1_phase), ("tithe/y2.phase", laid_tithe_y2_phase), ("tithe/y2.credit", laid_tithe_y2_credit), ("tithe/y2.standard", laid_tithe_y2_standard), ("tithe/y2.top", laid_tithe_y2_top), ("tithe/y2.rate", laid_tithe_y2_rate), ("tithe/y2.factor", laid_tithe_y2_factor), ("tithe/y2.cpi", laid_tithe_y2_cpi), ("tithe/y3.phase", laid_tithe_y3_phase), ("tithe/y3.standard", laid_tithe_y3_standard), ("tithe/y3.top", laid_tithe_y3_top), ("tithe/y3.factor", laid_tithe_y3_factor), ("tithe/y4.credit", laid_tithe_y4_credit), ("tithe/y4.phase", laid_tithe_y4_phase), ("tithe/y4.top", laid_tithe_y4_top), ("tithe/y4.factor", laid_tithe_y4_factor), ("tithe/y4.cpi", laid_tithe_y4_cpi), ("tithe/y4.standard", laid_tithe_y4_standard), ("tithe/y4.rate", laid_tithe_y4_rate)], narrowed := true }
def Y4FollowsUptoSaid : Prop := y4FollowsUptoRow.holds Tryd.pinned (OpenSpec.upto y4FollowsSpec)

/-- 'tithelaw18.Y2Leans', WHERE WHAT IT READS IS OF BULK AT MOST 1048576: true; the input reads as it did. -/
def y2LeansUptoRow : OpenClaim := { program := "ytoafcdnkoecgiaadoor", sum := "5f625e9943bad80f4396d56f0bf4b7ed3c1c46f101e05684355e13fadacf0f4f", func := "tithe/tithelaw18.Y2Leans", spec := "y2Leans", unfollowed := true, recurses := true, named := ["tithe/y2.cpi", "tithe/y2.factor", "tithe/y2.standard", "tithe/y2.top", "tithe/y2.rate", "tithe/y2.credit", "tithe/y2.phase", "tithe/y1.cpi", "tithe/y1.factor", "tithe/y1.top", "tithe/y1.rate", "tithe/y1.phase", "tithe/api.ErrZero", "tithe/api.ErrRange", "tithe/api.ErrScale", "tithe/api.ErrFrac", "tithe/api.ErrRound", "math/bits.divideError", "math/bits.overflowError"], apart := false, laid := [("tithe/api.ErrRange", laid_tithe_api_ErrRange), ("tithe/api.ErrZero", laid_tithe_api_ErrZero), ("tithe/api.ErrFrac", laid_tithe_api_ErrFrac), ("tithe/api.ErrRound", laid_tithe_api_ErrRound), ("tithe/api.ErrScale", laid_tithe_api_ErrScale), ("tithe/y1.cpi", laid_tithe_y1_cpi), ("tithe/y1.factor", laid_tithe_y1_factor), ("tithe/y1.top", laid_tithe_y1_top), ("tithe/y1.rate", laid_tithe_y1_rate), ("tithe/y1.phase", laid_tithe_y1_phase), ("tithe/y2.phase", laid_tithe_y2_phase), ("tithe/y2.credit", laid_tithe_y2_credit), ("tithe/y2.standard", laid_tithe_y2_standard), ("tithe/y2.top", laid_tithe_y2_top), ("tithe/y2.rate", laid_tithe_y2_rate), ("tithe/y2.factor", laid_tithe_y2_factor), ("tithe/y2.cpi", laid_tithe_y2_cpi)], narrowed := true }
def Y2LeansUptoSaid : Prop := y2LeansUptoRow.holds Tryd.pinned (OpenSpec.upto y2LeansSpec)

/-- 'tithelaw19.ThirdFollows', WHERE WHAT IT READS IS OF BULK AT MOST 1048576: true; the input reads as it did. -/
def thirdFollowsUptoRow : OpenClaim := { program := "ytoafcdnkoecgiaadoor", sum := "5f625e9943bad80f4396d56f0bf4b7ed3c1c46f101e05684355e13fadacf0f4f", func := "tithe/tithelaw19.ThirdFollows", spec := "thirdFollows", unfollowed := true, recurses := true, named := ["tithe/y2.cpi", "tithe/y2.factor", "tithe/y2.standard", "tithe/y2.top", "tithe/y2.rate", "tithe/y2.credit", "tithe/y2.phase", "tithe/y1.cpi", "tithe/y1.factor", "tithe/y1.top", "tithe/y1.rate", "tithe/y1.phase", "tithe/y3.factor", "tithe/y3.standard", "tithe/y3.top", "tithe/y3.phase", "tithe/api.ErrZero", "tithe/api.ErrScale", "tithe/api.ErrRange", "tithe/api.ErrFrac", "tithe/api.ErrRound", "math/bits.divideError", "math/bits.overflowError"], apart := false, laid := [("tithe/api.ErrRange", laid_tithe_api_ErrRange), ("tithe/api.ErrZero", laid_tithe_api_ErrZero), ("tithe/api.ErrFrac", laid_tithe_api_ErrFrac), ("tithe/api.ErrRound", laid_tithe_api_ErrRound), ("tithe/api.ErrScale", laid_tithe_api_ErrScale), ("tithe/y1.cpi", laid_tithe_y1_cpi), ("tithe/y1.factor", laid_tithe_y1_factor), ("tithe/y1.top", laid_tithe_y1_top), ("tithe/y1.rate", laid_tithe_y1_rate), ("tithe/y1.phase", laid_tithe_y1_phase), ("tithe/y2.phase", laid_tithe_y2_phase), ("tithe/y2.credit", laid_tithe_y2_credit), ("tithe/y2.standard", laid_tithe_y2_standard), ("tithe/y2.top", laid_tithe_y2_top), ("tithe/y2.rate", laid_tithe_y2_rate), ("tithe/y2.factor", laid_tithe_y2_factor), ("tithe/y2.cpi", laid_tithe_y2_cpi), ("tithe/y3.phase", laid_tithe_y3_phase), ("tithe/y3.standard", laid_tithe_y3_standard), ("tithe/y3.top", laid_tithe_y3_top), ("tithe/y3.factor", laid_tithe_y3_factor)], narrowed := true }
def ThirdFollowsUptoSaid : Prop := thirdFollowsUptoRow.holds Tryd.pinned (OpenSpec.upto thirdFollowsSpec)

/-- 'tithelaw18.Y2Valid', WHERE WHAT IT READS IS OF BULK AT MOST 1048576: true; the input reads as it did. -/
def y2ValidUptoRow : OpenClaim := { program := "ytoafcdnkoecgiaadoor", sum := "5f625e9943bad80f4396d56f0bf4b7ed3c1c46f101e05684355e13fadacf0f4f", func := "tithe/tithelaw18.Y2Valid", spec := "y2Valid", inPlace := ["internal/bytealg.CountString", "internal/bytealg.IndexByteString", "internal/bytealg.IndexString"], unfollowed := true, recurses := true, named := ["tithe/y2.cpi", "tithe/y2.factor", "tithe/y2.standard", "tithe/y2.top", "tithe/y2.rate", "tithe/y2.credit", "tithe/y2.phase", "tithe/y1.cpi", "tithe/y1.factor", "tithe/y1.top", "tithe/y1.rate", "tithe/y1.phase", "tithe/api.ErrZero", "tithe/api.ErrRange", "tithe/api.ErrScale", "tithe/api.ErrName", "tithe/api.ErrSpan", "tithe/api.ErrDay", "tithe/api.ErrProv", "tithe/api.ErrKind", "unicode/utf8.first", "unicode/utf8.acceptRanges", "internal/bytealg.MaxLen", "tithe/api.ErrFrac", "tithe/api.ErrLong", "tithe/api.ErrRound"], apart := false, laid := [("unicode/utf8.acceptRanges", laid_unicode_utf8_acceptRanges), ("tithe/api.ErrRange", laid_tithe_api_ErrRange), ("tithe/api.ErrZero", laid_tithe_api_ErrZero), ("tithe/api.ErrFrac", laid_tithe_api_ErrFrac), ("tithe/api.ErrRound", laid_tithe_api_ErrRound), ("tithe/api.ErrDay", laid_tithe_api_ErrDay), ("tithe/api.ErrSpan", laid_tithe_api_ErrSpan), ("tithe/api.ErrName", laid_tithe_api_ErrName), ("tithe/api.ErrKind", laid_tithe_api_ErrKind), ("tithe/api.ErrScale", laid_tithe_api_ErrScale), ("tithe/api.ErrProv", laid_tithe_api_ErrProv), ("tithe/api.ErrLong", laid_tithe_api_ErrLong), ("tithe/y1.cpi", laid_tithe_y1_cpi), ("tithe/y1.factor", laid_tithe_y1_factor), ("tithe/y1.top", laid_tithe_y1_top), ("tithe/y1.rate", laid_tithe_y1_rate), ("tithe/y1.phase", laid_tithe_y1_phase), ("tithe/y2.phase", laid_tithe_y2_phase), ("tithe/y2.credit", laid_tithe_y2_credit), ("tithe/y2.standard", laid_tithe_y2_standard), ("tithe/y2.top", laid_tithe_y2_top), ("tithe/y2.rate", laid_tithe_y2_rate), ("tithe/y2.factor", laid_tithe_y2_factor), ("tithe/y2.cpi", laid_tithe_y2_cpi), ("unicode/utf8.first", laid_unicode_utf8_first)], narrowed := true }
def Y2ValidUptoSaid : Prop := y2ValidUptoRow.holds Tryd.pinned (OpenSpec.upto y2ValidSpec)

end Rows
end Go.Proofs.YtoafcdnkoecgiaaDoor
