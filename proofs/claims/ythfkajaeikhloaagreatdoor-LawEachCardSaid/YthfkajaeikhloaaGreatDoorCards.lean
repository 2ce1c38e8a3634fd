/-
  DERIVED. GIVEN WITH THE SEED: THE CARDS: each row of YthfkajaeikhloaaGreatDoorRows.lean that lists a variable, with what it lists TIED to the program's text (the seventh form; the later family's looks); each row that meets fmt, with fmt's text TOLD by the authors' own Lean function (tested against real Go, not proved from fmt's source: count such statements apart). THE CARD IS WHAT COUNTS. Prove the row's statement (the work); the ties are given (YthfkajaeikhloaaGreatDoorTie.lean); close each card by the builder's one call (the guide's Derived/Test/ToyasCard.lean, 'card_holds'). Laid BY PROGRAM, IN A SANDBOX (cutbox-door.mjs). By AI agents, Wed Nov 11 2026. No macro, syntax, notation, axiom, sorry.
-/
import Derived.Test.YthfkajaeikhloaaGreatDoorRows
import GoSem.ClaimSeven
namespace Go.Proofs.YthfkajaeikhloaaGreatDoor
namespace Rows

/-- THE TIED CARD OF 'tithelaw21.LawInForce'. -/
def lawInForceCard : Claim7 := { stood := { row := lawInForceRow, standIns := [], harness := (true, "ff4d4563ad477594a54927f1a3c56fed84589efa9411a470d0c1957cfc496e20"), looks := true }, kinds := [], alts := [], laidByText := true, laidKinds := [.data, .sentinel, .sentinel, .sentinel, .sentinel, .sentinel, .sentinel, .sentinel, .sentinel, .sentinel, .sentinel, .sentinel, .sentinel, .sentinel, .sentinel, .sentinel, .sentinel, .data, .data, .data, .data, .data, .data, .data, .data, .data, .data, .data, .data, .data, .data, .data, .data, .data, .data, .data, .data, .data, .data, .data, .pinned], laidTests := true, laidLooks := .later }
def LawInForceCardSaid : Prop := Claim7.holds Tryz.pinned (.plain (OpenSpec.ofChange lawInForceSpec)) lawInForceCard

/-- THE TIED CARD OF 'tithelaw18.Y2Force'. -/
def y2ForceCard : Claim7 := { stood := { row := y2ForceRow, standIns := [], harness := (true, "ff4d4563ad477594a54927f1a3c56fed84589efa9411a470d0c1957cfc496e20"), looks := true }, kinds := [], alts := [], laidByText := true, laidKinds := [.data, .sentinel, .sentinel, .sentinel, .sentinel, .sentinel, .sentinel, .sentinel, .sentinel, .sentinel, .sentinel, .sentinel, .sentinel, .sentinel, .sentinel, .sentinel, .data, .data, .data, .data, .data, .data, .data, .data, .data, .data, .data, .data, .pinned], laidTests := true, laidLooks := .later }
def Y2ForceCardSaid : Prop := Claim7.holds Tryz.pinned (.plain (OpenSpec.ofChange y2ForceSpec)) y2ForceCard

/-- THE TIED CARD OF 'tithelaw21.LawEach'. -/
def lawEachCard : Claim7 := { stood := { row := lawEachRow, standIns := [], harness := (true, "ff4d4563ad477594a54927f1a3c56fed84589efa9411a470d0c1957cfc496e20"), looks := true }, kinds := [], alts := [], laidByText := true, laidKinds := [.data, .sentinel, .sentinel, .sentinel, .sentinel, .sentinel, .sentinel, .sentinel, .sentinel, .sentinel, .sentinel, .sentinel, .sentinel, .sentinel, .sentinel, .sentinel, .sentinel, .data, .data, .data, .data, .data, .data, .data, .data, .data, .data, .data, .data, .data, .data, .data, .data, .data, .data, .data, .data, .data, .data, .data, .pinned], laidTests := true, laidLooks := .later }
def LawEachCardSaid : Prop := Claim7.holds Tryz.pinned (.plain (OpenSpec.ofChange lawEachSpec)) lawEachCard

/-- THE SECOND FORM's CARD OF 'tithelaw21.LawInForce'. -/
def lawInForceUptoCard : Claim7 := { stood := { row := lawInForceUptoRow, standIns := [], harness := (true, "ff4d4563ad477594a54927f1a3c56fed84589efa9411a470d0c1957cfc496e20"), looks := true }, kinds := [], alts := [], laidByText := true, laidKinds := [.data, .sentinel, .sentinel, .sentinel, .sentinel, .sentinel, .sentinel, .sentinel, .sentinel, .sentinel, .sentinel, .sentinel, .sentinel, .sentinel, .sentinel, .sentinel, .sentinel, .data, .data, .data, .data, .data, .data, .data, .data, .data, .data, .data, .data, .data, .data, .data, .data, .data, .data, .data, .data, .data, .data, .data, .pinned], laidTests := true, laidLooks := .later }
def LawInForceUptoCardSaid : Prop := Claim7.holds Tryz.pinned (.plain (OpenSpec.upto lawInForceSpec)) lawInForceUptoCard

/-- THE SECOND FORM's CARD OF 'tithelaw18.Y2Force'. -/
def y2ForceUptoCard : Claim7 := { stood := { row := y2ForceUptoRow, standIns := [], harness := (true, "ff4d4563ad477594a54927f1a3c56fed84589efa9411a470d0c1957cfc496e20"), looks := true }, kinds := [], alts := [], laidByText := true, laidKinds := [.data, .sentinel, .sentinel, .sentinel, .sentinel, .sentinel, .sentinel, .sentinel, .sentinel, .sentinel, .sentinel, .sentinel, .sentinel, .sentinel, .sentinel, .sentinel, .data, .data, .data, .data, .data, .data, .data, .data, .data, .data, .data, .data, .pinned], laidTests := true, laidLooks := .later }
def Y2ForceUptoCardSaid : Prop := Claim7.holds Tryz.pinned (.plain (OpenSpec.upto y2ForceSpec)) y2ForceUptoCard

/-- THE SECOND FORM's CARD OF 'tithelaw21.LawEach'. -/
def lawEachUptoCard : Claim7 := { stood := { row := lawEachUptoRow, standIns := [], harness := (true, "ff4d4563ad477594a54927f1a3c56fed84589efa9411a470d0c1957cfc496e20"), looks := true }, kinds := [], alts := [], laidByText := true, laidKinds := [.data, .sentinel, .sentinel, .sentinel, .sentinel, .sentinel, .sentinel, .sentinel, .sentinel, .sentinel, .sentinel, .sentinel, .sentinel, .sentinel, .sentinel, .sentinel, .sentinel, .data, .data, .data, .data, .data, .data, .data, .data, .data, .data, .data, .data, .data, .data, .data, .data, .data, .data, .data, .data, .data, .data, .data, .pinned], laidTests := true, laidLooks := .later }
def LawEachUptoCardSaid : Prop := Claim7.holds Tryz.pinned (.plain (OpenSpec.upto lawEachSpec)) lawEachUptoCard
end Rows
end Go.Proofs.YthfkajaeikhloaaGreatDoor
