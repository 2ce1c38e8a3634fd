/-
  DERIVED. GIVEN WITH THE SEED: THE CARDS: each row of YtoafcdnkoecgiaaDoorRows.lean that lists a variable, with what it lists TIED to the program's text (the seventh form; the later family's looks); each row that meets fmt, with fmt's text TOLD by the authors' own Lean function (tested against real Go, not proved from fmt's source: count such statements apart). THE CARD IS WHAT COUNTS. Prove the row's statement (the work); the ties are given (YtoafcdnkoecgiaaDoorTie.lean); close each card by the builder's one call (the guide's Derived/Test/ToyasCard.lean, 'card_holds'). Laid BY PROGRAM, IN A SANDBOX (cutbox-door.mjs). By AI agents, Wed Nov 11 2026. No macro, syntax, notation, axiom, sorry.
-/
import Derived.Test.YtoafcdnkoecgiaaDoorRows
import GoSem.ClaimSeven
namespace Go.Proofs.YtoafcdnkoecgiaaDoor
namespace Rows

/-- THE TIED CARD OF 'tithelaw20.Y4Repeals'. -/
def y4RepealsCard : Claim7 := { stood := { row := y4RepealsRow, standIns := [], harness := (true, "7a28e0cced7c1dcd3cbe68ec18b79319189da64130157d2c633f090a342c8549"), looks := false }, kinds := [], alts := [], laidByText := true, laidKinds := [.sentinel, .sentinel, .sentinel, .data, .data, .data, .data, .data, .data, .data, .data, .data, .data, .data, .data, .data, .data, .data, .data, .data, .data, .data, .data, .data, .data], laidTests := true, laidLooks := .later }
def Y4RepealsCardSaid : Prop := Claim7.holds Tryd.pinned (.plain (OpenSpec.ofChange y4RepealsSpec)) y4RepealsCard

/-- THE TIED CARD OF 'tithelaw19.ThirdNotes'. -/
def thirdNotesCard : Claim7 := { stood := { row := thirdNotesRow, standIns := [], harness := (true, "7a28e0cced7c1dcd3cbe68ec18b79319189da64130157d2c633f090a342c8549"), looks := false }, kinds := [], alts := [], laidByText := true, laidKinds := [.sentinel, .sentinel, .sentinel, .data, .data, .data, .data, .data, .data, .data, .data, .data, .data, .data, .data, .data, .data, .data, .data], laidTests := true, laidLooks := .later }
def ThirdNotesCardSaid : Prop := Claim7.holds Tryd.pinned (.plain (OpenSpec.ofChange thirdNotesSpec)) thirdNotesCard

/-- THE TIED CARD OF 'tithelaw20.Y4Follows'. -/
def y4FollowsCard : Claim7 := { stood := { row := y4FollowsRow, standIns := [], harness := (true, "7a28e0cced7c1dcd3cbe68ec18b79319189da64130157d2c633f090a342c8549"), looks := false }, kinds := [], alts := [], laidByText := true, laidKinds := [.sentinel, .sentinel, .sentinel, .sentinel, .data, .data, .data, .data, .data, .data, .data, .data, .data, .data, .data, .data, .data, .data, .data, .data, .data, .data, .data, .data, .data, .data, .data], laidTests := true, laidLooks := .later }
def Y4FollowsCardSaid : Prop := Claim7.holds Tryd.pinned (.plain (OpenSpec.ofChange y4FollowsSpec)) y4FollowsCard

/-- THE TIED CARD OF 'tithelaw18.Y2Leans'. -/
def y2LeansCard : Claim7 := { stood := { row := y2LeansRow, standIns := [], harness := (true, "7a28e0cced7c1dcd3cbe68ec18b79319189da64130157d2c633f090a342c8549"), looks := false }, kinds := [], alts := [], laidByText := true, laidKinds := [.sentinel, .sentinel, .sentinel, .sentinel, .sentinel, .data, .data, .data, .data, .data, .data, .data, .data, .data, .data, .data, .data], laidTests := true, laidLooks := .later }
def Y2LeansCardSaid : Prop := Claim7.holds Tryd.pinned (.plain (OpenSpec.ofChange y2LeansSpec)) y2LeansCard

/-- THE TIED CARD OF 'tithelaw19.ThirdFollows'. -/
def thirdFollowsCard : Claim7 := { stood := { row := thirdFollowsRow, standIns := [], harness := (true, "7a28e0cced7c1dcd3cbe68ec18b79319189da64130157d2c633f090a342c8549"), looks := false }, kinds := [], alts := [], laidByText := true, laidKinds := [.sentinel, .sentinel, .sentinel, .sentinel, .sentinel, .data, .data, .data, .data, .data, .data, .data, .data, .data, .data, .data, .data, .data, .data, .data, .data], laidTests := true, laidLooks := .later }
def ThirdFollowsCardSaid : Prop := Claim7.holds Tryd.pinned (.plain (OpenSpec.ofChange thirdFollowsSpec)) thirdFollowsCard

/-- THE TIED CARD OF 'tithelaw18.Y2Valid'. -/
def y2ValidCard : Claim7 := { stood := { row := y2ValidRow, standIns := [], harness := (true, "7a28e0cced7c1dcd3cbe68ec18b79319189da64130157d2c633f090a342c8549"), looks := false }, kinds := [], alts := [], laidByText := true, laidKinds := [.data, .sentinel, .sentinel, .sentinel, .sentinel, .sentinel, .sentinel, .sentinel, .sentinel, .sentinel, .sentinel, .sentinel, .data, .data, .data, .data, .data, .data, .data, .data, .data, .data, .data, .data, .pinned], laidTests := true, laidLooks := .later }
def Y2ValidCardSaid : Prop := Claim7.holds Tryd.pinned (.plain (OpenSpec.ofChange y2ValidSpec)) y2ValidCard

/-- THE SECOND FORM's CARD OF 'tithelaw20.Y4Repeals'. -/
def y4RepealsUptoCard : Claim7 := { stood := { row := y4RepealsUptoRow, standIns := [], harness := (true, "7a28e0cced7c1dcd3cbe68ec18b79319189da64130157d2c633f090a342c8549"), looks := false }, kinds := [], alts := [], laidByText := true, laidKinds := [.sentinel, .sentinel, .sentinel, .data, .data, .data, .data, .data, .data, .data, .data, .data, .data, .data, .data, .data, .data, .data, .data, .data, .data, .data, .data, .data, .data], laidTests := true, laidLooks := .later }
def Y4RepealsUptoCardSaid : Prop := Claim7.holds Tryd.pinned (.plain (OpenSpec.upto y4RepealsSpec)) y4RepealsUptoCard

/-- THE SECOND FORM's CARD OF 'tithelaw19.ThirdNotes'. -/
def thirdNotesUptoCard : Claim7 := { stood := { row := thirdNotesUptoRow, standIns := [], harness := (true, "7a28e0cced7c1dcd3cbe68ec18b79319189da64130157d2c633f090a342c8549"), looks := false }, kinds := [], alts := [], laidByText := true, laidKinds := [.sentinel, .sentinel, .sentinel, .data, .data, .data, .data, .data, .data, .data, .data, .data, .data, .data, .data, .data, .data, .data, .data], laidTests := true, laidLooks := .later }
def ThirdNotesUptoCardSaid : Prop := Claim7.holds Tryd.pinned (.plain (OpenSpec.upto thirdNotesSpec)) thirdNotesUptoCard

/-- THE SECOND FORM's CARD OF 'tithelaw20.Y4Follows'. -/
def y4FollowsUptoCard : Claim7 := { stood := { row := y4FollowsUptoRow, standIns := [], harness := (true, "7a28e0cced7c1dcd3cbe68ec18b79319189da64130157d2c633f090a342c8549"), looks := false }, kinds := [], alts := [], laidByText := true, laidKinds := [.sentinel, .sentinel, .sentinel, .sentinel, .data, .data, .data, .data, .data, .data, .data, .data, .data, .data, .data, .data, .data, .data, .data, .data, .data, .data, .data, .data, .data, .data, .data], laidTests := true, laidLooks := .later }
def Y4FollowsUptoCardSaid : Prop := Claim7.holds Tryd.pinned (.plain (OpenSpec.upto y4FollowsSpec)) y4FollowsUptoCard

/-- THE SECOND FORM's CARD OF 'tithelaw18.Y2Leans'. -/
def y2LeansUptoCard : Claim7 := { stood := { row := y2LeansUptoRow, standIns := [], harness := (true, "7a28e0cced7c1dcd3cbe68ec18b79319189da64130157d2c633f090a342c8549"), looks := false }, kinds := [], alts := [], laidByText := true, laidKinds := [.sentinel, .sentinel, .sentinel, .sentinel, .sentinel, .data, .data, .data, .data, .data, .data, .data, .data, .data, .data, .data, .data], laidTests := true, laidLooks := .later }
def Y2LeansUptoCardSaid : Prop := Claim7.holds Tryd.pinned (.plain (OpenSpec.upto y2LeansSpec)) y2LeansUptoCard

/-- THE SECOND FORM's CARD OF 'tithelaw19.ThirdFollows'. -/
def thirdFollowsUptoCard : Claim7 := { stood := { row := thirdFollowsUptoRow, standIns := [], harness := (true, "7a28e0cced7c1dcd3cbe68ec18b79319189da64130157d2c633f090a342c8549"), looks := false }, kinds := [], alts := [], laidByText := true, laidKinds := [.sentinel, .sentinel, .sentinel, .sentinel, .sentinel, .data, .data, .data, .data, .data, .data, .data, .data, .data, .data, .data, .data, .data, .data, .data, .data], laidTests := true, laidLooks := .later }
def ThirdFollowsUptoCardSaid : Prop := Claim7.holds Tryd.pinned (.plain (OpenSpec.upto thirdFollowsSpec)) thirdFollowsUptoCard

/-- THE SECOND FORM's CARD OF 'tithelaw18.Y2Valid'. -/
def y2ValidUptoCard : Claim7 := { stood := { row := y2ValidUptoRow, standIns := [], harness := (true, "7a28e0cced7c1dcd3cbe68ec18b79319189da64130157d2c633f090a342c8549"), looks := false }, kinds := [], alts := [], laidByText := true, laidKinds := [.data, .sentinel, .sentinel, .sentinel, .sentinel, .sentinel, .sentinel, .sentinel, .sentinel, .sentinel, .sentinel, .sentinel, .data, .data, .data, .data, .data, .data, .data, .data, .data, .data, .data, .data, .pinned], laidTests := true, laidLooks := .later }
def Y2ValidUptoCardSaid : Prop := Claim7.holds Tryd.pinned (.plain (OpenSpec.upto y2ValidSpec)) y2ValidUptoCard
end Rows
end Go.Proofs.YtoafcdnkoecgiaaDoor
