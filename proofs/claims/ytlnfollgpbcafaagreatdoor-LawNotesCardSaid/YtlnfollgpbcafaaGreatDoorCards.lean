/-
  DERIVED. GIVEN WITH THE SEED: THE CARDS: each row of YtlnfollgpbcafaaGreatDoorRows.lean that lists a variable, with what it lists TIED to the program's text (the seventh form; the later family's looks); each row that meets fmt, with fmt's text TOLD by the authors' own Lean function (tested against real Go, not proved from fmt's source: count such statements apart). THE CARD IS WHAT COUNTS. Prove the row's statement (the work); the ties are given (YtlnfollgpbcafaaGreatDoorTie.lean); close each card by the builder's one call (the guide's Derived/Test/ToyasCard.lean, 'card_holds'). Laid BY PROGRAM, IN A SANDBOX (cutbox-door.mjs). By AI agents, Wed Nov 11 2026. No macro, syntax, notation, axiom, sorry.
-/
import Derived.Test.YtlnfollgpbcafaaGreatDoorRows
import GoSem.ClaimSeven
namespace Go.Proofs.YtlnfollgpbcafaaGreatDoor
namespace Rows

/-- THE TIED CARD OF 'tithelaw21.LawNotes'. -/
def lawNotesCard : Claim7 := { stood := { row := lawNotesRow, standIns := [], harness := (true, "086a4ffa4729d1fccb2c7c819e85afd19467a464f9a7b46ad02138a9a958927b"), looks := false }, kinds := [], alts := [], laidByText := true, laidKinds := [.data, .data, .data, .data, .data, .data, .data, .data, .data, .data, .data, .data, .data, .data, .data, .data, .data, .data, .data, .data, .data, .data, .data, .data, .data, .data], laidTests := true, laidLooks := .later }
def LawNotesCardSaid : Prop := Claim7.holds Tryz.pinned (.plain (OpenSpec.ofChange lawNotesSpec)) lawNotesCard

/-- THE TIED CARD OF 'tithelaw19.ThirdProvs'. -/
def thirdProvsCard : Claim7 := { stood := { row := thirdProvsRow, standIns := [], harness := (true, "086a4ffa4729d1fccb2c7c819e85afd19467a464f9a7b46ad02138a9a958927b"), looks := false }, kinds := [], alts := [], laidByText := true, laidKinds := [.data, .sentinel, .sentinel, .sentinel, .sentinel, .sentinel, .sentinel, .sentinel, .sentinel, .sentinel, .sentinel, .sentinel, .data, .data, .data, .data, .data, .data, .data, .data, .data, .data, .data, .data, .data, .data, .data, .data, .pinned], laidTests := true, laidLooks := .later }
def ThirdProvsCardSaid : Prop := Claim7.holds Tryz.pinned (.plain (OpenSpec.ofChange thirdProvsSpec)) thirdProvsCard

/-- THE TIED CARD OF 'tithelaw20.Y4Valid'. -/
def y4ValidCard : Claim7 := { stood := { row := y4ValidRow, standIns := [], harness := (true, "086a4ffa4729d1fccb2c7c819e85afd19467a464f9a7b46ad02138a9a958927b"), looks := false }, kinds := [], alts := [], laidByText := true, laidKinds := [.data, .sentinel, .sentinel, .sentinel, .sentinel, .sentinel, .sentinel, .sentinel, .sentinel, .sentinel, .sentinel, .sentinel, .data, .data, .data, .data, .data, .data, .data, .data, .data, .data, .data, .data, .data, .data, .data, .data, .data, .data, .data, .data, .data, .data, .data, .pinned], laidTests := true, laidLooks := .later }
def Y4ValidCardSaid : Prop := Claim7.holds Tryz.pinned (.plain (OpenSpec.ofChange y4ValidSpec)) y4ValidCard

/-- THE SECOND FORM's CARD OF 'tithelaw21.LawNotes'. -/
def lawNotesUptoCard : Claim7 := { stood := { row := lawNotesUptoRow, standIns := [], harness := (true, "086a4ffa4729d1fccb2c7c819e85afd19467a464f9a7b46ad02138a9a958927b"), looks := false }, kinds := [], alts := [], laidByText := true, laidKinds := [.data, .data, .data, .data, .data, .data, .data, .data, .data, .data, .data, .data, .data, .data, .data, .data, .data, .data, .data, .data, .data, .data, .data, .data, .data, .data], laidTests := true, laidLooks := .later }
def LawNotesUptoCardSaid : Prop := Claim7.holds Tryz.pinned (.plain (OpenSpec.upto lawNotesSpec)) lawNotesUptoCard

/-- THE SECOND FORM's CARD OF 'tithelaw19.ThirdProvs'. -/
def thirdProvsUptoCard : Claim7 := { stood := { row := thirdProvsUptoRow, standIns := [], harness := (true, "086a4ffa4729d1fccb2c7c819e85afd19467a464f9a7b46ad02138a9a958927b"), looks := false }, kinds := [], alts := [], laidByText := true, laidKinds := [.data, .sentinel, .sentinel, .sentinel, .sentinel, .sentinel, .sentinel, .sentinel, .sentinel, .sentinel, .sentinel, .sentinel, .data, .data, .data, .data, .data, .data, .data, .data, .data, .data, .data, .data, .data, .data, .data, .data, .pinned], laidTests := true, laidLooks := .later }
def ThirdProvsUptoCardSaid : Prop := Claim7.holds Tryz.pinned (.plain (OpenSpec.upto thirdProvsSpec)) thirdProvsUptoCard

/-- THE SECOND FORM's CARD OF 'tithelaw20.Y4Valid'. -/
def y4ValidUptoCard : Claim7 := { stood := { row := y4ValidUptoRow, standIns := [], harness := (true, "086a4ffa4729d1fccb2c7c819e85afd19467a464f9a7b46ad02138a9a958927b"), looks := false }, kinds := [], alts := [], laidByText := true, laidKinds := [.data, .sentinel, .sentinel, .sentinel, .sentinel, .sentinel, .sentinel, .sentinel, .sentinel, .sentinel, .sentinel, .sentinel, .data, .data, .data, .data, .data, .data, .data, .data, .data, .data, .data, .data, .data, .data, .data, .data, .data, .data, .data, .data, .data, .data, .data, .pinned], laidTests := true, laidLooks := .later }
def Y4ValidUptoCardSaid : Prop := Claim7.holds Tryz.pinned (.plain (OpenSpec.upto y4ValidSpec)) y4ValidUptoCard
end Rows
end Go.Proofs.YtlnfollgpbcafaaGreatDoor
