/-
  DERIVED. GIVEN WITH THE SEED: THE CARDS: each row of YtmlkgejkjhlbfaaDoorRows.lean that lists a variable, with what it lists TIED to the program's text (the seventh form; the later family's looks); each row that meets fmt, with fmt's text TOLD by the authors' own Lean function (tested against real Go, not proved from fmt's source: count such statements apart). THE CARD IS WHAT COUNTS. Prove the row's statement (the work); the ties are given (YtmlkgejkjhlbfaaDoorTie.lean); close each card by the builder's one call (the guide's Derived/Test/ToyasCard.lean, 'card_holds'). Laid BY PROGRAM, IN A SANDBOX (cutbox-door.mjs). By AI agents, Wed Nov 11 2026. No macro, syntax, notation, axiom, sorry.
-/
import Derived.Test.YtmlkgejkjhlbfaaDoorRows
import GoSem.ClaimSeven
namespace Go.Proofs.YtmlkgejkjhlbfaaDoor
namespace Rows

/-- THE TIED CARD OF 'tithelaw20.Y4Facts'. -/
def y4FactsCard : Claim7 := { stood := { row := y4FactsRow, standIns := [], harness := (true, "aab9991ad7d7dcc8eca72fb037dd71bb39e01984d0ba781c653536bef639e98a"), looks := false }, kinds := [], alts := [], laidByText := true, laidKinds := [.data, .data, .data, .data, .data, .data, .data, .data, .data, .data, .data, .data], laidTests := true, laidLooks := .later }
def Y4FactsCardSaid : Prop := Claim7.holds Tryd.pinned (.plain (OpenSpec.ofChange y4FactsSpec)) y4FactsCard

/-- THE TIED CARD OF 'tithelaw20.Y4Provs'. -/
def y4ProvsCard : Claim7 := { stood := { row := y4ProvsRow, standIns := [], harness := (true, "aab9991ad7d7dcc8eca72fb037dd71bb39e01984d0ba781c653536bef639e98a"), looks := false }, kinds := [], alts := [], laidByText := true, laidKinds := [.sentinel, .sentinel, .data, .data, .data, .data, .data, .data, .data, .data, .data, .data, .data, .data], laidTests := true, laidLooks := .later }
def Y4ProvsCardSaid : Prop := Claim7.holds Tryd.pinned (.plain (OpenSpec.ofChange y4ProvsSpec)) y4ProvsCard

/-- THE TIED CARD OF 'tithelaw18.Y2Provs'. -/
def y2ProvsCard : Claim7 := { stood := { row := y2ProvsRow, standIns := [], harness := (true, "aab9991ad7d7dcc8eca72fb037dd71bb39e01984d0ba781c653536bef639e98a"), looks := false }, kinds := [], alts := [], laidByText := true, laidKinds := [.sentinel, .sentinel, .sentinel, .data, .data, .data, .data, .data, .data, .data, .data, .data, .data, .data, .data], laidTests := true, laidLooks := .later }
def Y2ProvsCardSaid : Prop := Claim7.holds Tryd.pinned (.plain (OpenSpec.ofChange y2ProvsSpec)) y2ProvsCard

/-- THE TIED CARD OF 'tithelaw18.Y2Facts'. -/
def y2FactsCard : Claim7 := { stood := { row := y2FactsRow, standIns := [], harness := (true, "aab9991ad7d7dcc8eca72fb037dd71bb39e01984d0ba781c653536bef639e98a"), looks := false }, kinds := [], alts := [], laidByText := true, laidKinds := [.sentinel, .sentinel, .sentinel, .data, .data, .data, .data, .data, .data, .data, .data, .data, .data, .data, .data], laidTests := true, laidLooks := .later }
def Y2FactsCardSaid : Prop := Claim7.holds Tryd.pinned (.plain (OpenSpec.ofChange y2FactsSpec)) y2FactsCard

/-- THE TIED CARD OF 'tithelaw18.Y2Own'. -/
def y2OwnCard : Claim7 := { stood := { row := y2OwnRow, standIns := [], harness := (true, "aab9991ad7d7dcc8eca72fb037dd71bb39e01984d0ba781c653536bef639e98a"), looks := false }, kinds := [], alts := [], laidByText := true, laidKinds := [.sentinel, .sentinel, .sentinel, .data, .data, .data, .data, .data, .data, .data, .data, .data, .data, .data, .data], laidTests := true, laidLooks := .later }
def Y2OwnCardSaid : Prop := Claim7.holds Tryd.pinned (.plain (OpenSpec.ofChange y2OwnSpec)) y2OwnCard

/-- THE TIED CARD OF 'tithelaw20.Y4Notes'. -/
def y4NotesCard : Claim7 := { stood := { row := y4NotesRow, standIns := [], harness := (true, "aab9991ad7d7dcc8eca72fb037dd71bb39e01984d0ba781c653536bef639e98a"), looks := false }, kinds := [], alts := [], laidByText := true, laidKinds := [.data, .data, .data, .data, .data, .data, .data, .data, .data, .data, .data, .data, .data, .data, .data, .data, .data, .data, .data, .data, .data, .data, .data], laidTests := true, laidLooks := .later }
def Y4NotesCardSaid : Prop := Claim7.holds Tryd.pinned (.plain (OpenSpec.ofChange y4NotesSpec)) y4NotesCard

/-- THE TIED CARD OF 'tithelaw19.ThirdSays'. -/
def thirdSaysCard : Claim7 := { stood := { row := thirdSaysRow, standIns := [], harness := (true, "aab9991ad7d7dcc8eca72fb037dd71bb39e01984d0ba781c653536bef639e98a"), looks := false }, kinds := [], alts := [], laidByText := true, laidKinds := [.sentinel, .sentinel, .sentinel, .data, .data, .data, .data, .data, .data, .data, .data, .data, .data, .data, .data, .data, .data, .data, .data], laidTests := true, laidLooks := .later }
def ThirdSaysCardSaid : Prop := Claim7.holds Tryd.pinned (.plain (OpenSpec.ofChange thirdSaysSpec)) thirdSaysCard

/-- THE TIED CARD OF 'tithelaw19.ThirdOwn'. -/
def thirdOwnCard : Claim7 := { stood := { row := thirdOwnRow, standIns := [], harness := (true, "aab9991ad7d7dcc8eca72fb037dd71bb39e01984d0ba781c653536bef639e98a"), looks := false }, kinds := [], alts := [], laidByText := true, laidKinds := [.sentinel, .sentinel, .sentinel, .data, .data, .data, .data, .data, .data, .data, .data, .data, .data, .data, .data, .data, .data, .data, .data], laidTests := true, laidLooks := .later }
def ThirdOwnCardSaid : Prop := Claim7.holds Tryd.pinned (.plain (OpenSpec.ofChange thirdOwnSpec)) thirdOwnCard

/-- THE TIED CARD OF 'tithelaw19.ThirdFacts'. -/
def thirdFactsCard : Claim7 := { stood := { row := thirdFactsRow, standIns := [], harness := (true, "aab9991ad7d7dcc8eca72fb037dd71bb39e01984d0ba781c653536bef639e98a"), looks := false }, kinds := [], alts := [], laidByText := true, laidKinds := [.sentinel, .sentinel, .sentinel, .data, .data, .data, .data, .data, .data, .data, .data, .data, .data, .data, .data, .data, .data, .data, .data], laidTests := true, laidLooks := .later }
def ThirdFactsCardSaid : Prop := Claim7.holds Tryd.pinned (.plain (OpenSpec.ofChange thirdFactsSpec)) thirdFactsCard

/-- THE TIED CARD OF 'tithelaw18.Y2Notes'. -/
def y2NotesCard : Claim7 := { stood := { row := y2NotesRow, standIns := [], harness := (true, "aab9991ad7d7dcc8eca72fb037dd71bb39e01984d0ba781c653536bef639e98a"), looks := false }, kinds := [], alts := [], laidByText := true, laidKinds := [.sentinel, .sentinel, .sentinel, .data, .data, .data, .data, .data, .data, .data, .data, .data, .data, .data, .data], laidTests := true, laidLooks := .later }
def Y2NotesCardSaid : Prop := Claim7.holds Tryd.pinned (.plain (OpenSpec.ofChange y2NotesSpec)) y2NotesCard

/-- THE SECOND FORM's CARD OF 'tithelaw20.Y4Facts'. -/
def y4FactsUptoCard : Claim7 := { stood := { row := y4FactsUptoRow, standIns := [], harness := (true, "aab9991ad7d7dcc8eca72fb037dd71bb39e01984d0ba781c653536bef639e98a"), looks := false }, kinds := [], alts := [], laidByText := true, laidKinds := [.data, .data, .data, .data, .data, .data, .data, .data, .data, .data, .data, .data], laidTests := true, laidLooks := .later }
def Y4FactsUptoCardSaid : Prop := Claim7.holds Tryd.pinned (.plain (OpenSpec.upto y4FactsSpec)) y4FactsUptoCard

/-- THE SECOND FORM's CARD OF 'tithelaw20.Y4Provs'. -/
def y4ProvsUptoCard : Claim7 := { stood := { row := y4ProvsUptoRow, standIns := [], harness := (true, "aab9991ad7d7dcc8eca72fb037dd71bb39e01984d0ba781c653536bef639e98a"), looks := false }, kinds := [], alts := [], laidByText := true, laidKinds := [.sentinel, .sentinel, .data, .data, .data, .data, .data, .data, .data, .data, .data, .data, .data, .data], laidTests := true, laidLooks := .later }
def Y4ProvsUptoCardSaid : Prop := Claim7.holds Tryd.pinned (.plain (OpenSpec.upto y4ProvsSpec)) y4ProvsUptoCard

/-- THE SECOND FORM's CARD OF 'tithelaw18.Y2Provs'. -/
def y2ProvsUptoCard : Claim7 := { stood := { row := y2ProvsUptoRow, standIns := [], harness := (true, "aab9991ad7d7dcc8eca72fb037dd71bb39e01984d0ba781c653536bef639e98a"), looks := false }, kinds := [], alts := [], laidByText := true, laidKinds := [.sentinel, .sentinel, .sentinel, .data, .data, .data, .data, .data, .data, .data, .data, .data, .data, .data, .data], laidTests := true, laidLooks := .later }
def Y2ProvsUptoCardSaid : Prop := Claim7.holds Tryd.pinned (.plain (OpenSpec.upto y2ProvsSpec)) y2ProvsUptoCard

/-- THE SECOND FORM's CARD OF 'tithelaw18.Y2Facts'. -/
def y2FactsUptoCard : Claim7 := { stood := { row := y2FactsUptoRow, standIns := [], harness := (true, "aab9991ad7d7dcc8eca72fb037dd71bb39e01984d0ba781c653536bef639e98a"), looks := false }, kinds := [], alts := [], laidByText := true, laidKinds := [.sentinel, .sentinel, .sentinel, .data, .data, .data, .data, .data, .data, .data, .data, .data, .data, .data, .data], laidTests := true, laidLooks := .later }
def Y2FactsUptoCardSaid : Prop := Claim7.holds Tryd.pinned (.plain (OpenSpec.upto y2FactsSpec)) y2FactsUptoCard

/-- THE SECOND FORM's CARD OF 'tithelaw18.Y2Own'. -/
def y2OwnUptoCard : Claim7 := { stood := { row := y2OwnUptoRow, standIns := [], harness := (true, "aab9991ad7d7dcc8eca72fb037dd71bb39e01984d0ba781c653536bef639e98a"), looks := false }, kinds := [], alts := [], laidByText := true, laidKinds := [.sentinel, .sentinel, .sentinel, .data, .data, .data, .data, .data, .data, .data, .data, .data, .data, .data, .data], laidTests := true, laidLooks := .later }
def Y2OwnUptoCardSaid : Prop := Claim7.holds Tryd.pinned (.plain (OpenSpec.upto y2OwnSpec)) y2OwnUptoCard

/-- THE SECOND FORM's CARD OF 'tithelaw20.Y4Notes'. -/
def y4NotesUptoCard : Claim7 := { stood := { row := y4NotesUptoRow, standIns := [], harness := (true, "aab9991ad7d7dcc8eca72fb037dd71bb39e01984d0ba781c653536bef639e98a"), looks := false }, kinds := [], alts := [], laidByText := true, laidKinds := [.data, .data, .data, .data, .data, .data, .data, .data, .data, .data, .data, .data, .data, .data, .data, .data, .data, .data, .data, .data, .data, .data, .data], laidTests := true, laidLooks := .later }
def Y4NotesUptoCardSaid : Prop := Claim7.holds Tryd.pinned (.plain (OpenSpec.upto y4NotesSpec)) y4NotesUptoCard

/-- THE SECOND FORM's CARD OF 'tithelaw19.ThirdSays'. -/
def thirdSaysUptoCard : Claim7 := { stood := { row := thirdSaysUptoRow, standIns := [], harness := (true, "aab9991ad7d7dcc8eca72fb037dd71bb39e01984d0ba781c653536bef639e98a"), looks := false }, kinds := [], alts := [], laidByText := true, laidKinds := [.sentinel, .sentinel, .sentinel, .data, .data, .data, .data, .data, .data, .data, .data, .data, .data, .data, .data, .data, .data, .data, .data], laidTests := true, laidLooks := .later }
def ThirdSaysUptoCardSaid : Prop := Claim7.holds Tryd.pinned (.plain (OpenSpec.upto thirdSaysSpec)) thirdSaysUptoCard

/-- THE SECOND FORM's CARD OF 'tithelaw19.ThirdOwn'. -/
def thirdOwnUptoCard : Claim7 := { stood := { row := thirdOwnUptoRow, standIns := [], harness := (true, "aab9991ad7d7dcc8eca72fb037dd71bb39e01984d0ba781c653536bef639e98a"), looks := false }, kinds := [], alts := [], laidByText := true, laidKinds := [.sentinel, .sentinel, .sentinel, .data, .data, .data, .data, .data, .data, .data, .data, .data, .data, .data, .data, .data, .data, .data, .data], laidTests := true, laidLooks := .later }
def ThirdOwnUptoCardSaid : Prop := Claim7.holds Tryd.pinned (.plain (OpenSpec.upto thirdOwnSpec)) thirdOwnUptoCard

/-- THE SECOND FORM's CARD OF 'tithelaw19.ThirdFacts'. -/
def thirdFactsUptoCard : Claim7 := { stood := { row := thirdFactsUptoRow, standIns := [], harness := (true, "aab9991ad7d7dcc8eca72fb037dd71bb39e01984d0ba781c653536bef639e98a"), looks := false }, kinds := [], alts := [], laidByText := true, laidKinds := [.sentinel, .sentinel, .sentinel, .data, .data, .data, .data, .data, .data, .data, .data, .data, .data, .data, .data, .data, .data, .data, .data], laidTests := true, laidLooks := .later }
def ThirdFactsUptoCardSaid : Prop := Claim7.holds Tryd.pinned (.plain (OpenSpec.upto thirdFactsSpec)) thirdFactsUptoCard

/-- THE SECOND FORM's CARD OF 'tithelaw18.Y2Notes'. -/
def y2NotesUptoCard : Claim7 := { stood := { row := y2NotesUptoRow, standIns := [], harness := (true, "aab9991ad7d7dcc8eca72fb037dd71bb39e01984d0ba781c653536bef639e98a"), looks := false }, kinds := [], alts := [], laidByText := true, laidKinds := [.sentinel, .sentinel, .sentinel, .data, .data, .data, .data, .data, .data, .data, .data, .data, .data, .data, .data], laidTests := true, laidLooks := .later }
def Y2NotesUptoCardSaid : Prop := Claim7.holds Tryd.pinned (.plain (OpenSpec.upto y2NotesSpec)) y2NotesUptoCard
end Rows
end Go.Proofs.YtmlkgejkjhlbfaaDoor
