/-
  NARROWER THAN 'FOR EVERY INPUT', by the rows' own cells (each row's printed sentence says how): Y4Facts: laid · Y4Provs: laid · Y2Provs: laid · Y2Facts: laid · Y2Own: laid · Y4Notes: laid · ThirdSays: laid · ThirdOwn: laid · ThirdFacts: laid · Y2Notes: laid.
  DERIVED. THE GIVEN ROWS OF THIS SEAT. 10 by the template 'for every input the law returns true; each argument reads behind the call as it read before'; 0 by the template 'total and deterministic' (their statements: YtmlkgejkjhlbfaaDoorTotals.lean).
  GIVEN WITH THE SEED: the statements are not yours to turn. If you find one false, say at which input.
  Laid BY PROGRAM, IN A SANDBOX (cutbox-rows.mjs): the forced cells as the released guide's own fill.sh prints them over the translation b5a46e5f47708a03… (all of the seat's roots in one cut). By AI agents, Wed Nov 11 2026. No macro, syntax, notation, axiom, sorry.
-/
import Derived.Test.YtmlkgejkjhlbfaaDoorChecked
import GoSem.Claim
import GoSem.ClaimJoined
import GoSem.ClaimMapViews
import Derived.JoinedTies
import Derived.KernelRfl
namespace Go.Proofs.YtmlkgejkjhlbfaaDoor
/- THE CELL 'sum', in the pinned program and in every row, IS THE sha256 OF THE DUMP (.gsa) THAT YtmlkgejkjhlbfaaDoorProg.lean LOADS. Nothing in Lean hashes anything: it is a label: what it is worth is what the hold of that sum in a sandbox is worth. -/
noncomputable def Tryd.pinned : Pinned := { name := "ytmlkgejkjhlbfaadoor", sum := "b5a46e5f47708a0309c762c95457382072efd998af45ae556d1bddafa193333a", checked := Tryd.checked }
namespace Rows
def none {H : Type} : Left H := { results := [], args := [] }

/- WHAT THE LISTED PACKAGE-LEVEL VARIABLES READ AS WHEN THE CALL BEGINS. Each datum BY PROGRAM (the guide's laid-datum.mjs) off the statement by which the dump's own 'gosem.cut.vars' lays the variable. In a bare row this is a premise. The card (YtmlkgejkjhlbfaaDoorCards.lean) ties it to the program's text. -/
def laid_tithe_y1_cpi {H : Type} : DataW H := .agg [.lit (.int .i64 1000)]
def laid_tithe_y1_factor {H : Type} : DataW H := .agg [.lit (.int .i64 1), .lit (.int .i64 1)]
def laid_tithe_y1_top {H : Type} : DataW H := .agg [.lit (.int .i64 10000), .lit (.int .i64 40000), .lit (.int .i64 90000), .lit (.int .i64 18000), .lit (.int .i64 70000), .lit (.int .i64 150000)]
def laid_tithe_y1_rate {H : Type} : DataW H := .agg [.lit (.int .i64 1000), .lit (.int .i64 1500), .lit (.int .i64 2800), .lit (.int .i64 3500)]
def laid_tithe_y1_phase {H : Type} : DataW H := .agg [.lit (.int .i64 60000)]
def laid_tithe_y4_credit {H : Type} : DataW H := .agg [.lit (.int .i64 575), .lit (.int .i64 1013)]
def laid_tithe_y4_phase {H : Type} : DataW H := .agg [.lit (.int .i64 62000)]
def laid_tithe_y4_top {H : Type} : DataW H := .agg [.lit (.int .i64 10500), .lit (.int .i64 42300), .lit (.int .i64 95400), .lit (.int .i64 19000), .lit (.int .i64 74100), .lit (.int .i64 159100)]
def laid_tithe_y4_factor {H : Type} : DataW H := .agg [.lit (.int .i64 1058), .lit (.int .i64 1061)]
def laid_tithe_y4_cpi {H : Type} : DataW H := .agg [.lit (.int .i64 1058)]
def laid_tithe_y4_standard {H : Type} : DataW H := .agg [.lit (.int .i64 4250), .lit (.int .i64 7450)]
def laid_tithe_y4_rate {H : Type} : DataW H := .agg [.lit (.int .i64 1000), .lit (.int .i64 1500), .lit (.int .i64 2800), .lit (.int .i64 3960)]
def laid_tithe_api_ErrRange {H : Type} : DataW H := .iface "*errors.errorString" (.ptr (.agg [.lit (.string [97, 32, 110, 117, 109, 98, 101, 114, 32, 98, 101, 121, 111, 110, 100, 32, 116, 104, 101, 32, 114, 97, 110, 103, 101])]))
def laid_tithe_api_ErrZero {H : Type} : DataW H := .iface "*errors.errorString" (.ptr (.agg [.lit (.string [100, 105, 118, 105, 100, 101, 100, 32, 98, 121, 32, 122, 101, 114, 111])]))
def laid_tithe_api_ErrScale {H : Type} : DataW H := .iface "*errors.errorString" (.ptr (.agg [.lit (.string [110, 111, 32, 115, 99, 97, 108, 101])]))
def laid_tithe_y2_phase {H : Type} : DataW H := .agg [.lit (.int .i64 60000)]
def laid_tithe_y2_credit {H : Type} : DataW H := .agg [.lit (.int .i64 550), .lit (.int .i64 975)]
def laid_tithe_y2_standard {H : Type} : DataW H := .agg [.lit (.int .i64 4100), .lit (.int .i64 7150)]
def laid_tithe_y2_top {H : Type} : DataW H := .agg [.lit (.int .i64 10200), .lit (.int .i64 40900), .lit (.int .i64 92100), .lit (.int .i64 18400), .lit (.int .i64 71600), .lit (.int .i64 153600)]
def laid_tithe_y2_rate {H : Type} : DataW H := .agg [.lit (.int .i64 950), .lit (.int .i64 1500), .lit (.int .i64 2800), .lit (.int .i64 3500)]
def laid_tithe_y2_factor {H : Type} : DataW H := .agg [.lit (.int .i64 128), .lit (.int .i64 125)]
def laid_tithe_y2_cpi {H : Type} : DataW H := .agg [.lit (.int .i64 1024)]
def laid_tithe_y3_phase {H : Type} : DataW H := .agg [.lit (.int .i64 62000)]
def laid_tithe_y3_standard {H : Type} : DataW H := .agg [.lit (.int .i64 4250), .lit (.int .i64 7450)]
def laid_tithe_y3_top {H : Type} : DataW H := .agg [.lit (.int .i64 10500), .lit (.int .i64 42300), .lit (.int .i64 95400), .lit (.int .i64 19000), .lit (.int .i64 74100), .lit (.int .i64 159100)]
def laid_tithe_y3_factor {H : Type} : DataW H := .agg [.lit (.int .i64 1061), .lit (.int .i64 1024)]

/-- 'tithelaw20.Y4Facts': WHATEVER THE INPUT: true; the input reads as it did. -/
def y4FactsSpec : ChangeSpec := { name := "y4Facts", fn := fun _ => fun
  | [d1, d2] => { results := [.lit (.bool true)], args := [d1, d2] }
  | _ => none }
def y4FactsRow : OpenClaim := { program := "ytmlkgejkjhlbfaadoor", sum := "b5a46e5f47708a0309c762c95457382072efd998af45ae556d1bddafa193333a", func := "tithe/tithelaw20.Y4Facts", spec := "y4Facts", unfollowed := true, recurses := true, named := ["tithe/y4.cpi", "tithe/y4.factor", "tithe/y4.standard", "tithe/y4.top", "tithe/y4.rate", "tithe/y4.credit", "tithe/y4.phase", "tithe/y1.cpi", "tithe/y1.factor", "tithe/y1.top", "tithe/y1.rate", "tithe/y1.phase"], apart := false, laid := [("tithe/y1.cpi", laid_tithe_y1_cpi), ("tithe/y1.factor", laid_tithe_y1_factor), ("tithe/y1.top", laid_tithe_y1_top), ("tithe/y1.rate", laid_tithe_y1_rate), ("tithe/y1.phase", laid_tithe_y1_phase), ("tithe/y4.credit", laid_tithe_y4_credit), ("tithe/y4.phase", laid_tithe_y4_phase), ("tithe/y4.top", laid_tithe_y4_top), ("tithe/y4.factor", laid_tithe_y4_factor), ("tithe/y4.cpi", laid_tithe_y4_cpi), ("tithe/y4.standard", laid_tithe_y4_standard), ("tithe/y4.rate", laid_tithe_y4_rate)] }
def Y4FactsSaid : Prop := y4FactsRow.holds Tryd.pinned (OpenSpec.ofChange y4FactsSpec)

/-- ITS FALSE NEIGHBOUR: 'it returns false'. Refute it at one input. -/
def y4FactsWrong : ChangeSpec := { name := "y4Facts", fn := fun _ => fun
  | [d1, d2] => { results := [.lit (.bool false)], args := [d1, d2] }
  | _ => none }
def Y4FactsWrongFalsely : Prop := y4FactsRow.holds Tryd.pinned (OpenSpec.ofChange y4FactsWrong)

/-- 'tithelaw20.Y4Provs': WHATEVER THE INPUT: true; the input reads as it did. -/
def y4ProvsSpec : ChangeSpec := { name := "y4Provs", fn := fun _ => fun
  | [d1, d2] => { results := [.lit (.bool true)], args := [d1, d2] }
  | _ => none }
def y4ProvsRow : OpenClaim := { program := "ytmlkgejkjhlbfaadoor", sum := "b5a46e5f47708a0309c762c95457382072efd998af45ae556d1bddafa193333a", func := "tithe/tithelaw20.Y4Provs", spec := "y4Provs", unfollowed := true, recurses := true, named := ["tithe/y4.cpi", "tithe/y4.factor", "tithe/y4.standard", "tithe/y4.top", "tithe/y4.rate", "tithe/y4.credit", "tithe/y4.phase", "tithe/y1.cpi", "tithe/y1.factor", "tithe/y1.top", "tithe/y1.rate", "tithe/y1.phase", "tithe/api.ErrZero", "tithe/api.ErrRange"], apart := false, laid := [("tithe/api.ErrRange", laid_tithe_api_ErrRange), ("tithe/api.ErrZero", laid_tithe_api_ErrZero), ("tithe/y1.cpi", laid_tithe_y1_cpi), ("tithe/y1.factor", laid_tithe_y1_factor), ("tithe/y1.top", laid_tithe_y1_top), ("tithe/y1.rate", laid_tithe_y1_rate), ("tithe/y1.phase", laid_tithe_y1_phase), ("tithe/y4.credit", laid_tithe_y4_credit), ("tithe/y4.phase", laid_tithe_y4_phase), ("tithe/y4.top", laid_tithe_y4_top), ("tithe/y4.factor", laid_tithe_y4_factor), ("tithe/y4.cpi", laid_tithe_y4_cpi), ("tithe/y4.standard", laid_tithe_y4_standard), ("tithe/y4.rate", laid_tithe_y4_rate)] }
def Y4ProvsSaid : Prop := y4ProvsRow.holds Tryd.pinned (OpenSpec.ofChange y4ProvsSpec)

/-- ITS FALSE NEIGHBOUR: 'it returns false'. Refute it at one input. -/
def y4ProvsWrong : ChangeSpec := { name := "y4Provs", fn := fun _ => fun
  | [d1, d2] => { results := [.lit (.bool false)], args := [d1, d2] }
  | _ => none }
def Y4ProvsWrongFalsely : Prop := y4ProvsRow.holds Tryd.pinned (OpenSpec.ofChange y4ProvsWrong)

/-- 'tithelaw18.Y2Provs': WHATEVER THE INPUT: true; the input reads as it did. -/
def y2ProvsSpec : ChangeSpec := { name := "y2Provs", fn := fun _ => fun
  | [d1, d2] => { results := [.lit (.bool true)], args := [d1, d2] }
  | _ => none }
def y2ProvsRow : OpenClaim := { program := "ytmlkgejkjhlbfaadoor", sum := "b5a46e5f47708a0309c762c95457382072efd998af45ae556d1bddafa193333a", func := "tithe/tithelaw18.Y2Provs", spec := "y2Provs", unfollowed := true, recurses := true, named := ["tithe/y2.cpi", "tithe/y2.factor", "tithe/y2.standard", "tithe/y2.top", "tithe/y2.rate", "tithe/y2.credit", "tithe/y2.phase", "tithe/y1.cpi", "tithe/y1.factor", "tithe/y1.top", "tithe/y1.rate", "tithe/y1.phase", "tithe/api.ErrZero", "tithe/api.ErrRange", "tithe/api.ErrScale"], apart := false, laid := [("tithe/api.ErrRange", laid_tithe_api_ErrRange), ("tithe/api.ErrZero", laid_tithe_api_ErrZero), ("tithe/api.ErrScale", laid_tithe_api_ErrScale), ("tithe/y1.cpi", laid_tithe_y1_cpi), ("tithe/y1.factor", laid_tithe_y1_factor), ("tithe/y1.top", laid_tithe_y1_top), ("tithe/y1.rate", laid_tithe_y1_rate), ("tithe/y1.phase", laid_tithe_y1_phase), ("tithe/y2.phase", laid_tithe_y2_phase), ("tithe/y2.credit", laid_tithe_y2_credit), ("tithe/y2.standard", laid_tithe_y2_standard), ("tithe/y2.top", laid_tithe_y2_top), ("tithe/y2.rate", laid_tithe_y2_rate), ("tithe/y2.factor", laid_tithe_y2_factor), ("tithe/y2.cpi", laid_tithe_y2_cpi)] }
def Y2ProvsSaid : Prop := y2ProvsRow.holds Tryd.pinned (OpenSpec.ofChange y2ProvsSpec)

/-- ITS FALSE NEIGHBOUR: 'it returns false'. Refute it at one input. -/
def y2ProvsWrong : ChangeSpec := { name := "y2Provs", fn := fun _ => fun
  | [d1, d2] => { results := [.lit (.bool false)], args := [d1, d2] }
  | _ => none }
def Y2ProvsWrongFalsely : Prop := y2ProvsRow.holds Tryd.pinned (OpenSpec.ofChange y2ProvsWrong)

/-- 'tithelaw18.Y2Facts': WHATEVER THE INPUT: true; the input reads as it did. -/
def y2FactsSpec : ChangeSpec := { name := "y2Facts", fn := fun _ => fun
  | [d1, d2] => { results := [.lit (.bool true)], args := [d1, d2] }
  | _ => none }
def y2FactsRow : OpenClaim := { program := "ytmlkgejkjhlbfaadoor", sum := "b5a46e5f47708a0309c762c95457382072efd998af45ae556d1bddafa193333a", func := "tithe/tithelaw18.Y2Facts", spec := "y2Facts", unfollowed := true, recurses := true, named := ["tithe/y2.cpi", "tithe/y2.factor", "tithe/y2.standard", "tithe/y2.top", "tithe/y2.rate", "tithe/y2.credit", "tithe/y2.phase", "tithe/y1.cpi", "tithe/y1.factor", "tithe/y1.top", "tithe/y1.rate", "tithe/y1.phase", "tithe/api.ErrZero", "tithe/api.ErrRange", "tithe/api.ErrScale"], apart := false, laid := [("tithe/api.ErrRange", laid_tithe_api_ErrRange), ("tithe/api.ErrZero", laid_tithe_api_ErrZero), ("tithe/api.ErrScale", laid_tithe_api_ErrScale), ("tithe/y1.cpi", laid_tithe_y1_cpi), ("tithe/y1.factor", laid_tithe_y1_factor), ("tithe/y1.top", laid_tithe_y1_top), ("tithe/y1.rate", laid_tithe_y1_rate), ("tithe/y1.phase", laid_tithe_y1_phase), ("tithe/y2.phase", laid_tithe_y2_phase), ("tithe/y2.credit", laid_tithe_y2_credit), ("tithe/y2.standard", laid_tithe_y2_standard), ("tithe/y2.top", laid_tithe_y2_top), ("tithe/y2.rate", laid_tithe_y2_rate), ("tithe/y2.factor", laid_tithe_y2_factor), ("tithe/y2.cpi", laid_tithe_y2_cpi)] }
def Y2FactsSaid : Prop := y2FactsRow.holds Tryd.pinned (OpenSpec.ofChange y2FactsSpec)

/-- ITS FALSE NEIGHBOUR: 'it returns false'. Refute it at one input. -/
def y2FactsWrong : ChangeSpec := { name := "y2Facts", fn := fun _ => fun
  | [d1, d2] => { results := [.lit (.bool false)], args := [d1, d2] }
  | _ => none }
def Y2FactsWrongFalsely : Prop := y2FactsRow.holds Tryd.pinned (OpenSpec.ofChange y2FactsWrong)

/-- 'tithelaw18.Y2Own': WHATEVER THE INPUT: true; the input reads as it did. -/
def y2OwnSpec : ChangeSpec := { name := "y2Own", fn := fun _ => fun
  | [d] => { results := [.lit (.bool true)], args := [d] }
  | _ => none }
def y2OwnRow : OpenClaim := { program := "ytmlkgejkjhlbfaadoor", sum := "b5a46e5f47708a0309c762c95457382072efd998af45ae556d1bddafa193333a", func := "tithe/tithelaw18.Y2Own", spec := "y2Own", unfollowed := true, recurses := true, named := ["tithe/y2.cpi", "tithe/y2.factor", "tithe/y2.standard", "tithe/y2.top", "tithe/y2.rate", "tithe/y2.credit", "tithe/y2.phase", "tithe/y1.cpi", "tithe/y1.factor", "tithe/y1.top", "tithe/y1.rate", "tithe/y1.phase", "tithe/api.ErrZero", "tithe/api.ErrRange", "tithe/api.ErrScale"], apart := false, laid := [("tithe/api.ErrRange", laid_tithe_api_ErrRange), ("tithe/api.ErrZero", laid_tithe_api_ErrZero), ("tithe/api.ErrScale", laid_tithe_api_ErrScale), ("tithe/y1.cpi", laid_tithe_y1_cpi), ("tithe/y1.factor", laid_tithe_y1_factor), ("tithe/y1.top", laid_tithe_y1_top), ("tithe/y1.rate", laid_tithe_y1_rate), ("tithe/y1.phase", laid_tithe_y1_phase), ("tithe/y2.phase", laid_tithe_y2_phase), ("tithe/y2.credit", laid_tithe_y2_credit), ("tithe/y2.standard", laid_tithe_y2_standard), ("tithe/y2.top", laid_tithe_y2_top), ("tithe/y2.rate", laid_tithe_y2_rate), ("tithe/y2.factor", laid_tithe_y2_factor), ("tithe/y2.cpi", laid_tithe_y2_cpi)] }
def Y2OwnSaid : Prop := y2OwnRow.holds Tryd.pinned (OpenSpec.ofChange y2OwnSpec)

/-- ITS FALSE NEIGHBOUR: 'it returns false'. Refute it at one input. -/
def y2OwnWrong : ChangeSpec := { name := "y2Own", fn := fun _ => fun
  | [d] => { results := [.lit (.bool false)], args := [d] }
  | _ => none }
def Y2OwnWrongFalsely : Prop := y2OwnRow.holds Tryd.pinned (OpenSpec.ofChange y2OwnWrong)

/-- 'tithelaw20.Y4Notes': WHATEVER THE INPUT: true; the input reads as it did. -/
def y4NotesSpec : ChangeSpec := { name := "y4Notes", fn := fun _ => fun
  | [d] => { results := [.lit (.bool true)], args := [d] }
  | _ => none }
def y4NotesRow : OpenClaim := { program := "ytmlkgejkjhlbfaadoor", sum := "b5a46e5f47708a0309c762c95457382072efd998af45ae556d1bddafa193333a", func := "tithe/tithelaw20.Y4Notes", spec := "y4Notes", unfollowed := true, recurses := true, named := ["tithe/y4.cpi", "tithe/y4.factor", "tithe/y4.standard", "tithe/y4.top", "tithe/y4.rate", "tithe/y4.credit", "tithe/y4.phase", "tithe/y1.cpi", "tithe/y1.factor", "tithe/y1.top", "tithe/y1.rate", "tithe/y1.phase", "tithe/y2.cpi", "tithe/y2.factor", "tithe/y2.standard", "tithe/y2.top", "tithe/y2.rate", "tithe/y2.credit", "tithe/y2.phase", "tithe/y3.factor", "tithe/y3.standard", "tithe/y3.top", "tithe/y3.phase"], apart := false, laid := [("tithe/y1.cpi", laid_tithe_y1_cpi), ("tithe/y1.factor", laid_tithe_y1_factor), ("tithe/y1.top", laid_tithe_y1_top), ("tithe/y1.rate", laid_tithe_y1_rate), ("tithe/y1.phase", laid_tithe_y1_phase), ("tithe/y2.phase", laid_tithe_y2_phase), ("tithe/y2.credit", laid_tithe_y2_credit), ("tithe/y2.standard", laid_tithe_y2_standard), ("tithe/y2.top", laid_tithe_y2_top), ("tithe/y2.rate", laid_tithe_y2_rate), ("tithe/y2.factor", laid_tithe_y2_factor), ("tithe/y2.cpi", laid_tithe_y2_cpi), ("tithe/y3.phase", laid_tithe_y3_phase), ("tithe/y3.standard", laid_tithe_y3_standard), ("tithe/y3.top", laid_tithe_y3_top), ("tithe/y3.factor", laid_tithe_y3_factor), ("tithe/y4.credit", laid_tithe_y4_credit), ("tithe/y4.phase", laid_tithe_y4_phase), ("tithe/y4.top", laid_tithe_y4_top), ("tithe/y4.factor", laid_tithe_y4_factor), ("tithe/y4.cpi", laid_tithe_y4_cpi), ("tithe/y4.standard", laid_tithe_y4_standard), ("tithe/y4.rate", laid_tithe_y4_rate)] }
def Y4NotesSaid : Prop := y4NotesRow.holds Tryd.pinned (OpenSpec.ofChange y4NotesSpec)

/-- ITS FALSE NEIGHBOUR: 'it returns false'. Refute it at one input. -/
def y4NotesWrong : ChangeSpec := { name := "y4Notes", fn := fun _ => fun
  | [d] => { results := [.lit (.bool false)], args := [d] }
  | _ => none }
def Y4NotesWrongFalsely : Prop := y4NotesRow.holds Tryd.pinned (OpenSpec.ofChange y4NotesWrong)

/-- 'tithelaw19.ThirdSays': WHATEVER THE INPUT: true; the input reads as it did. -/
def thirdSaysSpec : ChangeSpec := { name := "thirdSays", fn := fun _ => fun
  | [d] => { results := [.lit (.bool true)], args := [d] }
  | _ => none }
def thirdSaysRow : OpenClaim := { program := "ytmlkgejkjhlbfaadoor", sum := "b5a46e5f47708a0309c762c95457382072efd998af45ae556d1bddafa193333a", func := "tithe/tithelaw19.ThirdSays", spec := "thirdSays", unfollowed := true, recurses := true, named := ["tithe/y2.cpi", "tithe/y2.factor", "tithe/y2.standard", "tithe/y2.top", "tithe/y2.rate", "tithe/y2.credit", "tithe/y2.phase", "tithe/y1.cpi", "tithe/y1.factor", "tithe/y1.top", "tithe/y1.rate", "tithe/y1.phase", "tithe/y3.factor", "tithe/y3.standard", "tithe/y3.top", "tithe/y3.phase", "tithe/api.ErrZero", "tithe/api.ErrScale", "tithe/api.ErrRange"], apart := false, laid := [("tithe/api.ErrRange", laid_tithe_api_ErrRange), ("tithe/api.ErrZero", laid_tithe_api_ErrZero), ("tithe/api.ErrScale", laid_tithe_api_ErrScale), ("tithe/y1.cpi", laid_tithe_y1_cpi), ("tithe/y1.factor", laid_tithe_y1_factor), ("tithe/y1.top", laid_tithe_y1_top), ("tithe/y1.rate", laid_tithe_y1_rate), ("tithe/y1.phase", laid_tithe_y1_phase), ("tithe/y2.phase", laid_tithe_y2_phase), ("tithe/y2.credit", laid_tithe_y2_credit), ("tithe/y2.standard", laid_tithe_y2_standard), ("tithe/y2.top", laid_tithe_y2_top), ("tithe/y2.rate", laid_tithe_y2_rate), ("tithe/y2.factor", laid_tithe_y2_factor), ("tithe/y2.cpi", laid_tithe_y2_cpi), ("tithe/y3.phase", laid_tithe_y3_phase), ("tithe/y3.standard", laid_tithe_y3_standard), ("tithe/y3.top", laid_tithe_y3_top), ("tithe/y3.factor", laid_tithe_y3_factor)] }
def ThirdSaysSaid : Prop := thirdSaysRow.holds Tryd.pinned (OpenSpec.ofChange thirdSaysSpec)

/-- ITS FALSE NEIGHBOUR: 'it returns false'. Refute it at one input. -/
def thirdSaysWrong : ChangeSpec := { name := "thirdSays", fn := fun _ => fun
  | [d] => { results := [.lit (.bool false)], args := [d] }
  | _ => none }
def ThirdSaysWrongFalsely : Prop := thirdSaysRow.holds Tryd.pinned (OpenSpec.ofChange thirdSaysWrong)

/-- 'tithelaw19.ThirdOwn': WHATEVER THE INPUT: true; the input reads as it did. -/
def thirdOwnSpec : ChangeSpec := { name := "thirdOwn", fn := fun _ => fun
  | [d] => { results := [.lit (.bool true)], args := [d] }
  | _ => none }
def thirdOwnRow : OpenClaim := { program := "ytmlkgejkjhlbfaadoor", sum := "b5a46e5f47708a0309c762c95457382072efd998af45ae556d1bddafa193333a", func := "tithe/tithelaw19.ThirdOwn", spec := "thirdOwn", unfollowed := true, recurses := true, named := ["tithe/y2.cpi", "tithe/y2.factor", "tithe/y2.standard", "tithe/y2.top", "tithe/y2.rate", "tithe/y2.credit", "tithe/y2.phase", "tithe/y1.cpi", "tithe/y1.factor", "tithe/y1.top", "tithe/y1.rate", "tithe/y1.phase", "tithe/y3.factor", "tithe/y3.standard", "tithe/y3.top", "tithe/y3.phase", "tithe/api.ErrZero", "tithe/api.ErrScale", "tithe/api.ErrRange"], apart := false, laid := [("tithe/api.ErrRange", laid_tithe_api_ErrRange), ("tithe/api.ErrZero", laid_tithe_api_ErrZero), ("tithe/api.ErrScale", laid_tithe_api_ErrScale), ("tithe/y1.cpi", laid_tithe_y1_cpi), ("tithe/y1.factor", laid_tithe_y1_factor), ("tithe/y1.top", laid_tithe_y1_top), ("tithe/y1.rate", laid_tithe_y1_rate), ("tithe/y1.phase", laid_tithe_y1_phase), ("tithe/y2.phase", laid_tithe_y2_phase), ("tithe/y2.credit", laid_tithe_y2_credit), ("tithe/y2.standard", laid_tithe_y2_standard), ("tithe/y2.top", laid_tithe_y2_top), ("tithe/y2.rate", laid_tithe_y2_rate), ("tithe/y2.factor", laid_tithe_y2_factor), ("tithe/y2.cpi", laid_tithe_y2_cpi), ("tithe/y3.phase", laid_tithe_y3_phase), ("tithe/y3.standard", laid_tithe_y3_standard), ("tithe/y3.top", laid_tithe_y3_top), ("tithe/y3.factor", laid_tithe_y3_factor)] }
def ThirdOwnSaid : Prop := thirdOwnRow.holds Tryd.pinned (OpenSpec.ofChange thirdOwnSpec)

/-- ITS FALSE NEIGHBOUR: 'it returns false'. Refute it at one input. -/
def thirdOwnWrong : ChangeSpec := { name := "thirdOwn", fn := fun _ => fun
  | [d] => { results := [.lit (.bool false)], args := [d] }
  | _ => none }
def ThirdOwnWrongFalsely : Prop := thirdOwnRow.holds Tryd.pinned (OpenSpec.ofChange thirdOwnWrong)

/-- 'tithelaw19.ThirdFacts': WHATEVER THE INPUT: true; the input reads as it did. -/
def thirdFactsSpec : ChangeSpec := { name := "thirdFacts", fn := fun _ => fun
  | [d1, d2] => { results := [.lit (.bool true)], args := [d1, d2] }
  | _ => none }
def thirdFactsRow : OpenClaim := { program := "ytmlkgejkjhlbfaadoor", sum := "b5a46e5f47708a0309c762c95457382072efd998af45ae556d1bddafa193333a", func := "tithe/tithelaw19.ThirdFacts", spec := "thirdFacts", unfollowed := true, recurses := true, named := ["tithe/y2.cpi", "tithe/y2.factor", "tithe/y2.standard", "tithe/y2.top", "tithe/y2.rate", "tithe/y2.credit", "tithe/y2.phase", "tithe/y1.cpi", "tithe/y1.factor", "tithe/y1.top", "tithe/y1.rate", "tithe/y1.phase", "tithe/y3.factor", "tithe/y3.standard", "tithe/y3.top", "tithe/y3.phase", "tithe/api.ErrZero", "tithe/api.ErrScale", "tithe/api.ErrRange"], apart := false, laid := [("tithe/api.ErrRange", laid_tithe_api_ErrRange), ("tithe/api.ErrZero", laid_tithe_api_ErrZero), ("tithe/api.ErrScale", laid_tithe_api_ErrScale), ("tithe/y1.cpi", laid_tithe_y1_cpi), ("tithe/y1.factor", laid_tithe_y1_factor), ("tithe/y1.top", laid_tithe_y1_top), ("tithe/y1.rate", laid_tithe_y1_rate), ("tithe/y1.phase", laid_tithe_y1_phase), ("tithe/y2.phase", laid_tithe_y2_phase), ("tithe/y2.credit", laid_tithe_y2_credit), ("tithe/y2.standard", laid_tithe_y2_standard), ("tithe/y2.top", laid_tithe_y2_top), ("tithe/y2.rate", laid_tithe_y2_rate), ("tithe/y2.factor", laid_tithe_y2_factor), ("tithe/y2.cpi", laid_tithe_y2_cpi), ("tithe/y3.phase", laid_tithe_y3_phase), ("tithe/y3.standard", laid_tithe_y3_standard), ("tithe/y3.top", laid_tithe_y3_top), ("tithe/y3.factor", laid_tithe_y3_factor)] }
def ThirdFactsSaid : Prop := thirdFactsRow.holds Tryd.pinned (OpenSpec.ofChange thirdFactsSpec)

/-- ITS FALSE NEIGHBOUR: 'it returns false'. Refute it at one input. -/
def thirdFactsWrong : ChangeSpec := { name := "thirdFacts", fn := fun _ => fun
  | [d1, d2] => { results := [.lit (.bool false)], args := [d1, d2] }
  | _ => none }
def ThirdFactsWrongFalsely : Prop := thirdFactsRow.holds Tryd.pinned (OpenSpec.ofChange thirdFactsWrong)

/-- 'tithelaw18.Y2Notes': WHATEVER THE INPUT: true; the input reads as it did. -/
def y2NotesSpec : ChangeSpec := { name := "y2Notes", fn := fun _ => fun
  | [d] => { results := [.lit (.bool true)], args := [d] }
  | _ => none }
def y2NotesRow : OpenClaim := { program := "ytmlkgejkjhlbfaadoor", sum := "b5a46e5f47708a0309c762c95457382072efd998af45ae556d1bddafa193333a", func := "tithe/tithelaw18.Y2Notes", spec := "y2Notes", unfollowed := true, recurses := true, named := ["tithe/y2.cpi", "tithe/y2.factor", "tithe/y2.standard", "tithe/y2.top", "tithe/y2.rate", "tithe/y2.credit", "tithe/y2.phase", "tithe/y1.cpi", "tithe/y1.factor", "tithe/y1.top", "tithe/y1.rate", "tithe/y1.phase", "tithe/api.ErrZero", "tithe/api.ErrRange", "tithe/api.ErrScale"], apart := false, laid := [("tithe/api.ErrRange", laid_tithe_api_ErrRange), ("tithe/api.ErrZero", laid_tithe_api_ErrZero), ("tithe/api.ErrScale", laid_tithe_api_ErrScale), ("tithe/y1.cpi", laid_tithe_y1_cpi), ("tithe/y1.factor", laid_tithe_y1_factor), ("tithe/y1.top", laid_tithe_y1_top), ("tithe/y1.rate", laid_tithe_y1_rate), ("tithe/y1.phase", laid_tithe_y1_phase), ("tithe/y2.phase", laid_tithe_y2_phase), ("tithe/y2.credit", laid_tithe_y2_credit), ("tithe/y2.standard", laid_tithe_y2_standard), ("tithe/y2.top", laid_tithe_y2_top), ("tithe/y2.rate", laid_tithe_y2_rate), ("tithe/y2.factor", laid_tithe_y2_factor), ("tithe/y2.cpi", laid_tithe_y2_cpi)] }
def Y2NotesSaid : Prop := y2NotesRow.holds Tryd.pinned (OpenSpec.ofChange y2NotesSpec)

/-- ITS FALSE NEIGHBOUR: 'it returns false'. Refute it at one input. -/
def y2NotesWrong : ChangeSpec := { name := "y2Notes", fn := fun _ => fun
  | [d] => { results := [.lit (.bool false)], args := [d] }
  | _ => none }
def Y2NotesWrongFalsely : Prop := y2NotesRow.holds Tryd.pinned (OpenSpec.ofChange y2NotesWrong)

/- THE SECOND FORM. 'bulk': how many values and letters a reading holds, each counted each time it is reached (what is shared counts as often as it is met; a slice's spare places count too). A statement '..UptoSaid' is the law's where the arguments, and the package variables that the reading takes, are together of bulk at most 1048576: NARROWER than '..Said'. Prove '..Said' where nothing that the law and all that it calls make is longer than what came in: it says more and counts as full. Else prove '..UptoSaid'. A law counts once. -/
mutual
def uptoBulk {H : Type} : DataW H → Nat
  | .lit (.string bytes) => bytes.length + 1
  | .lit _ => 1
  | .nil => 1
  | .ptr d => uptoBulk d + 1
  | .slice elems spare => uptoBulkAll elems + uptoBulkAll spare + 1
  | .agg parts => uptoBulkAll parts + 1
  | .iface _ d => uptoBulk d + 1
  | .map entries => uptoBulkEntries entries + 1
  | .held _ => 1
def uptoBulkAll {H : Type} : List (DataW H) → Nat
  | [] => 0
  | d :: r => uptoBulk d + uptoBulkAll r
def uptoBulkEntries {H : Type} : List (Lit × DataW H) → Nat
  | [] => 0
  | x :: r => uptoBulkEntry x + uptoBulkEntries r
def uptoBulkEntry {H : Type} : Lit × DataW H → Nat
  | (.string bytes, d) => bytes.length + uptoBulk d + 1
  | (_, d) => uptoBulk d + 1
 end
def uptoSmall : (H : Type) → List (DataW H) → Bool := fun _ ds => decide (uptoBulkAll ds ≤ 1048576)
def OpenSpec.upto (s : _root_.Go.ChangeSpec) : _root_.Go.OpenSpec := { _root_.Go.OpenSpec.ofChange s with cond := some uptoSmall }

/-- 'tithelaw20.Y4Facts', WHERE WHAT IT READS IS OF BULK AT MOST 1048576: true; the input reads as it did. -/
def y4FactsUptoRow : OpenClaim := { program := "ytmlkgejkjhlbfaadoor", sum := "b5a46e5f47708a0309c762c95457382072efd998af45ae556d1bddafa193333a", func := "tithe/tithelaw20.Y4Facts", spec := "y4Facts", unfollowed := true, recurses := true, named := ["tithe/y4.cpi", "tithe/y4.factor", "tithe/y4.standard", "tithe/y4.top", "tithe/y4.rate", "tithe/y4.credit", "tithe/y4.phase", "tithe/y1.cpi", "tithe/y1.factor", "tithe/y1.top", "tithe/y1.rate", "tithe/y1.phase"], apart := false, laid := [("tithe/y1.cpi", laid_tithe_y1_cpi), ("tithe/y1.factor", laid_tithe_y1_factor), ("tithe/y1.top", laid_tithe_y1_top), ("tithe/y1.rate", laid_tithe_y1_rate), ("tithe/y1.phase", laid_tithe_y1_phase), ("tithe/y4.credit", laid_tithe_y4_credit), ("tithe/y4.phase", laid_tithe_y4_phase), ("tithe/y4.top", laid_tithe_y4_top), ("tithe/y4.factor", laid_tithe_y4_factor), ("tithe/y4.cpi", laid_tithe_y4_cpi), ("tithe/y4.standard", laid_tithe_y4_standard), ("tithe/y4.rate", laid_tithe_y4_rate)], narrowed := true }
def Y4FactsUptoSaid : Prop := y4FactsUptoRow.holds Tryd.pinned (OpenSpec.upto y4FactsSpec)

/-- 'tithelaw20.Y4Provs', WHERE WHAT IT READS IS OF BULK AT MOST 1048576: true; the input reads as it did. -/
def y4ProvsUptoRow : OpenClaim := { program := "ytmlkgejkjhlbfaadoor", sum := "b5a46e5f47708a0309c762c95457382072efd998af45ae556d1bddafa193333a", func := "tithe/tithelaw20.Y4Provs", spec := "y4Provs", unfollowed := true, recurses := true, named := ["tithe/y4.cpi", "tithe/y4.factor", "tithe/y4.standard", "tithe/y4.top", "tithe/y4.rate", "tithe/y4.credit", "tithe/y4.phase", "tithe/y1.cpi", "tithe/y1.factor", "tithe/y1.top", "tithe/y1.rate", "tithe/y1.phase", "tithe/api.ErrZero", "tithe/api.ErrRange"], apart := false, laid := [("tithe/api.ErrRange", laid_tithe_api_ErrRange), ("tithe/api.ErrZero", laid_tithe_api_ErrZero), ("tithe/y1.cpi", laid_tithe_y1_cpi), ("tithe/y1.factor", laid_tithe_y1_factor), ("tithe/y1.top", laid_tithe_y1_top), ("tithe/y1.rate", laid_tithe_y1_rate), ("tithe/y1.phase", laid_tithe_y1_phase), ("tithe/y4.credit", laid_tithe_y4_credit), ("tithe/y4.phase", laid_tithe_y4_phase), ("tithe/y4.top", laid_tithe_y4_top), ("tithe/y4.factor", laid_tithe_y4_factor), ("tithe/y4.cpi", laid_tithe_y4_cpi), ("tithe/y4.standard", laid_tithe_y4_standard), ("tithe/y4.rate", laid_tithe_y4_rate)], narrowed := true }
def Y4ProvsUptoSaid : Prop := y4ProvsUptoRow.holds Tryd.pinned (OpenSpec.upto y4ProvsSpec)

/-- 'tithelaw18.Y2Provs', WHERE WHAT IT READS IS OF BULK AT MOST 1048576: true; the input reads as it did. -/
def y2ProvsUptoRow : OpenClaim := { program := "ytmlkgejkjhlbfaadoor", sum := "b5a46e5f47708a0309c762c95457382072efd998af45ae556d1bddafa193333a", func := "tithe/tithelaw18.Y2Provs", spec := "y2Provs", unfollowed := true, recurses := true, named := ["tithe/y2.cpi", "tithe/y2.factor", "tithe/y2.standard", "tithe/y2.top", "tithe/y2.rate", "tithe/y2.credit", "tithe/y2.phase", "tithe/y1.cpi", "tithe/y1.factor", "tithe/y1.top", "tithe/y1.rate", "tithe/y1.phase", "tithe/api.ErrZero", "tithe/api.ErrRange", "tithe/api.ErrScale"], apart := false, laid := [("tithe/api.ErrRange", laid_tithe_api_ErrRange), ("tithe/api.ErrZero", laid_tithe_api_ErrZero), ("tithe/api.ErrScale", laid_tithe_api_ErrScale), ("tithe/y1.cpi", laid_tithe_y1_cpi), ("tithe/y1.factor", laid_tithe_y1_factor), ("tithe/y1.top", laid_tithe_y1_top), ("tithe/y1.rate", laid_tithe_y1_rate), ("tithe/y1.phase", laid_tithe_y1_phase), ("tithe/y2.phase", laid_tithe_y2_phase), ("tithe/y2.credit", laid_tithe_y2_credit), ("tithe/y2.standard", laid_tithe_y2_standard), ("tithe/y2.top", laid_tithe_y2_top), ("tithe/y2.rate", laid_tithe_y2_rate), ("tithe/y2.factor", laid_tithe_y2_factor), ("tithe/y2.cpi", laid_tithe_y2_cpi)], narrowed := true }
def Y2ProvsUptoSaid : Prop := y2ProvsUptoRow.holds Tryd.pinned (OpenSpec.upto y2ProvsSpec)

/-- 'tithelaw18.Y2Facts', WHERE WHAT IT READS IS OF BULK AT MOST 1048576: true; the input reads as it did. -/
def y2FactsUptoRow : OpenClaim := { program := "ytmlkgejkjhlbfaadoor", sum := "b5a46e5f47708a0309c762c95457382072efd998af45ae556d1bddafa193333a", func := "tithe/tithelaw18.Y2Facts", spec := "y2Facts", unfollowed := true, recurses := true, named := ["tithe/y2.cpi", "tithe/y2.factor", "tithe/y2.standard", "tithe/y2.top", "tithe/y2.rate", "tithe/y2.credit", "tithe/y2.phase", "tithe/y1.cpi", "tithe/y1.factor", "tithe/y1.top", "tithe/y1.rate", "tithe/y1.phase", "tithe/api.ErrZero", "tithe/api.ErrRange", "tithe/api.ErrScale"], apart := false, laid := [("tithe/api.ErrRange", laid_tithe_api_ErrRange), ("tithe/api.ErrZero", laid_tithe_api_ErrZero), ("tithe/api.ErrScale", laid_tithe_api_ErrScale), ("tithe/y1.cpi", laid_tithe_y1_cpi), ("tithe/y1.factor", laid_tithe_y1_factor), ("tithe/y1.top", laid_tithe_y1_top), ("tithe/y1.rate", laid_tithe_y1_rate), ("tithe/y1.phase", laid_tithe_y1_phase), ("tithe/y2.phase", laid_tithe_y2_phase), ("tithe/y2.credit", laid_tithe_y2_credit), ("tithe/y2.standard", laid_tithe_y2_standard), ("tithe/y2.top", laid_tithe_y2_top), ("tithe/y2.rate", laid_tithe_y2_rate), ("tithe/y2.factor", laid_tithe_y2_factor), ("tithe/y2.cpi", laid_tithe_y2_cpi)], narrowed := true }
def Y2FactsUptoSaid : Prop := y2FactsUptoRow.holds Tryd.pinned (OpenSpec.upto y2FactsSpec)

/-- 'tithelaw18.Y2Own', WHERE WHAT IT READS IS OF BULK AT MOST 1048576: true; the input reads as it did. -/
def y2OwnUptoRow : OpenClaim := { program := "ytmlkgejkjhlbfaadoor", sum := "b5a46e5f47708a0309c762c95457382072efd998af45ae556d1bddafa193333a", func := "tithe/tithelaw18.Y2Own", spec := "y2Own", unfollowed := true, recurses := true, named := ["tithe/y2.cpi", "tithe/y2.factor", "tithe/y2.standard", "tithe/y2.top", "tithe/y2.rate", "tithe/y2.credit", "tithe/y2.phase", "tithe/y1.cpi", "tithe/y1.factor", "tithe/y1.top", "tithe/y1.rate", "tithe/y1.phase", "tithe/api.ErrZero", "tithe/api.ErrRange", "tithe/api.ErrScale"], apart := false, laid := [("tithe/api.ErrRange", laid_tithe_api_ErrRange), ("tithe/api.ErrZero", laid_tithe_api_ErrZero), ("tithe/api.ErrScale", laid_tithe_api_ErrScale), ("tithe/y1.cpi", laid_tithe_y1_cpi), ("tithe/y1.factor", laid_tithe_y1_factor), ("tithe/y1.top", laid_tithe_y1_top), ("tithe/y1.rate", laid_tithe_y1_rate), ("tithe/y1.phase", laid_tithe_y1_phase), ("tithe/y2.phase", laid_tithe_y2_phase), ("tithe/y2.credit", laid_tithe_y2_credit), ("tithe/y2.standard", laid_tithe_y2_standard), ("tithe/y2.top", laid_tithe_y2_top), ("tithe/y2.rate", laid_tithe_y2_rate), ("tithe/y2.factor", laid_tithe_y2_factor), ("tithe/y2.cpi", laid_tithe_y2_cpi)], narrowed := true }
def Y2OwnUptoSaid : Prop := y2OwnUptoRow.holds Tryd.pinned (OpenSpec.upto y2OwnSpec)

/-- 'tithelaw20.Y4Notes', WHERE WHAT IT READS IS OF BULK AT MOST 1048576: true; the input reads as it did. -/
def y4NotesUptoRow : OpenClaim := { program := "ytmlkgejkjhlbfaadoor", sum := "b5a46e5f47708a0309c762c95457382072efd998af45ae556d1bddafa193333a", func := "tithe/tithelaw20.Y4Notes", spec := "y4Notes", unfollowed := true, recurses := true, named := ["tithe/y4.cpi", "tithe/y4.factor", "tithe/y4.standard", "tithe/y4.top", "tithe/y4.rate", "tithe/y4.credit", "tithe/y4.phase", "tithe/y1.cpi", "tithe/y1.factor", "tithe/y1.top", "tithe/y1.rate", "tithe/y1.phase", "tithe/y2.cpi", "tithe/y2.factor", "tithe/y2.standard", "tithe/y2.top", "tithe/y2.rate", "tithe/y2.credit", "tithe/y2.phase", "tithe/y3.factor", "tithe/y3.standard", "tithe/y3.top", "tithe/y3.phase"], apart := false, laid := [("tithe/y1.cpi", laid_tithe_y1_cpi), ("tithe/y1.factor", laid_tithe_y1_factor), ("tithe/y1.top", laid_tithe_y1_top), ("tithe/y1.rate", laid_tithe_y1_rate), ("tithe/y1.phase", laid_tithe_y1_phase), ("tithe/y2.phase", laid_tithe_y2_phase), ("tithe/y2.credit", laid_tithe_y2_credit), ("tithe/y2.standard", laid_tithe_y2_standard), ("tithe/y2.top", laid_tithe_y2_top), ("tithe/y2.rate", laid_tithe_y2_rate), ("tithe/y2.factor", laid_tithe_y2_factor), ("tithe/y2.cpi", laid_tithe_y2_cpi), ("tithe/y3.phase", laid_tithe_y3_phase), ("tithe/y3.standard", laid_tithe_y3_standard), ("tithe/y3.top", laid_tithe_y3_top), ("tithe/y3.factor", laid_tithe_y3_factor), ("tithe/y4.credit", laid_tithe_y4_credit), ("tithe/y4.phase", laid_tithe_y4_phase), ("tithe/y4.top", laid_tithe_y4_top), ("tithe/y4.factor", laid_tithe_y4_factor), ("tithe/y4.cpi", laid_tithe_y4_cpi), ("tithe/y4.standard", laid_tithe_y4_standard), ("tithe/y4.rate", laid_tithe_y4_rate)], narrowed := true }
def Y4NotesUptoSaid : Prop := y4NotesUptoRow.holds Tryd.pinned (OpenSpec.upto y4NotesSpec)

/-- 'tithelaw19.ThirdSays', WHERE WHAT IT READS IS OF BULK AT MOST 1048576: true; the input reads as it did. -/
def thirdSaysUptoRow : OpenClaim := { program := "ytmlkgejkjhlbfaadoor", sum := "b5a46e5f47708a0309c762c95457382072efd998af45ae556d1bddafa193333a", func := "tithe/tithelaw19.ThirdSays", spec := "thirdSays", unfollowed := true, recurses := true, named := ["tithe/y2.cpi", "tithe/y2.factor", "tithe/y2.standard", "tithe/y2.top", "tithe/y2.rate", "tithe/y2.credit", "tithe/y2.phase", "tithe/y1.cpi", "tithe/y1.factor", "tithe/y1.top", "tithe/y1.rate", "tithe/y1.phase", "tithe/y3.factor", "tithe/y3.standard", "tithe/y3.top", "tithe/y3.phase", "tithe/api.ErrZero", "tithe/api.ErrScale", "tithe/api.ErrRange"], apart := false, laid := [("tithe/api.ErrRange", laid_tithe_api_ErrRange), ("tithe/api.ErrZero", laid_tithe_api_ErrZero), ("tithe/api.ErrScale", laid_tithe_api_ErrScale), ("tithe/y1.cpi", laid_tithe_y1_cpi), ("tithe/y1.factor", laid_tithe_y1_factor), ("tithe/y1.top", laid_tithe_y1_top), ("tithe/y1.rate", laid_tithe_y1_rate), ("tithe/y1.phase", laid_tithe_y1_phase), ("tithe/y2.phase", laid_tithe_y2_phase), ("tithe/y2.credit", laid_tithe_y2_credit), ("tithe/y2.standard", laid_tithe_y2_standard), ("tithe/y2.top", laid_tithe_y2_top), ("tithe/y2.rate", laid_tithe_y2_rate), ("tithe/y2.factor", laid_tithe_y2_factor), ("tithe/y2.cpi", laid_tithe_y2_cpi), ("tithe/y3.phase", laid_tithe_y3_phase), ("tithe/y3.standard", laid_tithe_y3_standard), ("tithe/y3.top", laid_tithe_y3_top), ("tithe/y3.factor", laid_tithe_y3_factor)], narrowed := true }
def ThirdSaysUptoSaid : Prop := thirdSaysUptoRow.holds Tryd.pinned (OpenSpec.upto thirdSaysSpec)

/-- 'tithelaw19.ThirdOwn', WHERE WHAT IT READS IS OF BULK AT MOST 1048576: true; the input reads as it did. -/
def thirdOwnUptoRow : OpenClaim := { program := "ytmlkgejkjhlbfaadoor", sum := "b5a46e5f47708a0309c762c95457382072efd998af45ae556d1bddafa193333a", func := "tithe/tithelaw19.ThirdOwn", spec := "thirdOwn", unfollowed := true, recurses := true, named := ["tithe/y2.cpi", "tithe/y2.factor", "tithe/y2.standard", "tithe/y2.top", "tithe/y2.rate", "tithe/y2.credit", "tithe/y2.phase", "tithe/y1.cpi", "tithe/y1.factor", "tithe/y1.top", "tithe/y1.rate", "tithe/y1.phase", "tithe/y3.factor", "tithe/y3.standard", "tithe/y3.top", "tithe/y3.phase", "tithe/api.ErrZero", "tithe/api.ErrScale", "tithe/api.ErrRange"], apart := false, laid := [("tithe/api.ErrRange", laid_tithe_api_ErrRange), ("tithe/api.ErrZero", laid_tithe_api_ErrZero), ("tithe/api.ErrScale", laid_tithe_api_ErrScale), ("tithe/y1.cpi", laid_tithe_y1_cpi), ("tithe/y1.factor", laid_tithe_y1_factor), ("tithe/y1.top", laid_tithe_y1_top), ("tithe/y1.rate", laid_tithe_y1_rate), ("tithe/y1.phase", laid_tithe_y1_phase), ("tithe/y2.phase", laid_tithe_y2_phase), ("tithe/y2.credit", laid_tithe_y2_credit), ("tithe/y2.standard", laid_tithe_y2_standard), ("tithe/y2.top", laid_tithe_y2_top), ("tithe/y2.rate", laid_tithe_y2_rate), ("tithe/y2.factor", laid_tithe_y2_factor), ("tithe/y2.cpi", laid_tithe_y2_cpi), ("tithe/y3.phase", laid_tithe_y3_phase), ("tithe/y3.standard", laid_tithe_y3_standard), ("tithe/y3.top", laid_tithe_y3_top), ("tithe/y3.factor", laid_tithe_y3_factor)], narrowed := true }
def ThirdOwnUptoSaid : Prop := thirdOwnUptoRow.holds Tryd.pinned (OpenSpec.upto thirdOwnSpec)

/-- 'tithelaw19.ThirdFacts', WHERE WHAT IT READS IS OF BULK AT MOST 1048576: true; the input reads as it did. -/
def thirdFactsUptoRow : OpenClaim := { program := "ytmlkgejkjhlbfaadoor", sum := "b5a46e5f47708a0309c762c95457382072efd998af45ae556d1bddafa193333a", func := "tithe/tithelaw19.ThirdFacts", spec := "thirdFacts", unfollowed := true, recurses := true, named := ["tithe/y2.cpi", "tithe/y2.factor", "tithe/y2.standard", "tithe/y2.top", "tithe/y2.rate", "tithe/y2.credit", "tithe/y2.phase", "tithe/y1.cpi", "tithe/y1.factor", "tithe/y1.top", "tithe/y1.rate", "tithe/y1.phase", "tithe/y3.factor", "tithe/y3.standard", "tithe/y3.top", "tithe/y3.phase", "tithe/api.ErrZero", "tithe/api.ErrScale", "tithe/api.ErrRange"], apart := false, laid := [("tithe/api.ErrRange", laid_tithe_api_ErrRange), ("tithe/api.ErrZero", laid_tithe_api_ErrZero), ("tithe/api.ErrScale", laid_tithe_api_ErrScale), ("tithe/y1.cpi", laid_tithe_y1_cpi), ("tithe/y1.factor", laid_tithe_y1_factor), ("tithe/y1.top", laid_tithe_y1_top), ("tithe/y1.rate", laid_tithe_y1_rate), ("tithe/y1.phase", laid_tithe_y1_phase), ("tithe/y2.phase", laid_tithe_y2_phase), ("tithe/y2.credit", laid_tithe_y2_credit), ("tithe/y2.standard", laid_tithe_y2_standard), ("tithe/y2.top", laid_tithe_y2_top), ("tithe/y2.rate", laid_tithe_y2_rate), ("tithe/y2.factor", laid_tithe_y2_factor), ("tithe/y2.cpi", laid_tithe_y2_cpi), ("tithe/y3.phase", laid_tithe_y3_phase), ("tithe/y3.standard", laid_tithe_y3_standard), ("tithe/y3.top", laid_tithe_y3_top), ("tithe/y3.factor", laid_tithe_y3_factor)], narrowed := true }
def ThirdFactsUptoSaid : Prop := thirdFactsUptoRow.holds Tryd.pinned (OpenSpec.upto thirdFactsSpec)

/-- 'tithelaw18.Y2Notes', WHERE WHAT IT READS IS OF BULK AT MOST 1048576: true; the input reads as it did. -/
def y2NotesUptoRow : OpenClaim := { program := "ytmlkgejkjhlbfaadoor", sum := "b5a46e5f47708a0309c762c95457382072efd998af45ae556d1bddafa193333a", func := "tithe/tithelaw18.Y2Notes", spec := "y2Notes", unfollowed := true, recurses := true, named := ["tithe/y2.cpi", "tithe/y2.factor", "tithe/y2.standard", "tithe/y2.top", "tithe/y2.rate", "tithe/y2.credit", "tithe/y2.phase", "tithe/y1.cpi", "tithe/y1.factor", "tithe/y1.top", "tithe/y1.rate", "tithe/y1.phase", "tithe/api.ErrZero", "tithe/api.ErrRange", "tithe/api.ErrScale"], apart := false, laid := [("tithe/api.ErrRange", laid_tithe_api_ErrRange), ("tithe/api.ErrZero", laid_tithe_api_ErrZero), ("tithe/api.ErrScale", laid_tithe_api_ErrScale), ("tithe/y1.cpi", laid_tithe_y1_cpi), ("tithe/y1.factor", laid_tithe_y1_factor), ("tithe/y1.top", laid_tithe_y1_top), ("tithe/y1.rate", laid_tithe_y1_rate), ("tithe/y1.phase", laid_tithe_y1_phase), ("tithe/y2.phase", laid_tithe_y2_phase), ("tithe/y2.credit", laid_tithe_y2_credit), ("tithe/y2.standard", laid_tithe_y2_standard), ("tithe/y2.top", laid_tithe_y2_top), ("tithe/y2.rate", laid_tithe_y2_rate), ("tithe/y2.factor", laid_tithe_y2_factor), ("tithe/y2.cpi", laid_tithe_y2_cpi)], narrowed := true }
def Y2NotesUptoSaid : Prop := y2NotesUptoRow.holds Tryd.pinned (OpenSpec.upto y2NotesSpec)

end Rows
end Go.Proofs.YtmlkgejkjhlbfaaDoor
