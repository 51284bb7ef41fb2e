/-
  DERIVED. GIVEN WITH THE SEED: THE CARDS: each row of YthfphdbebnkdpaaDoorRows.lean that lists a variable, with what it lists TIED to the program's text (the seventh form; the later family's looks); each row that meets fmt, with fmt's text TOLD by the authors' own Lean function (tested against real Go, not proved from fmt's source: count such statements apart). THE CARD IS WHAT COUNTS. Prove the row's statement (the work); the ties are given (YthfphdbebnkdpaaDoorTie.lean); close each card by the builder's one call (the guide's Derived/Test/ToyasCard.lean, 'card_holds'). Laid BY PROGRAM, IN A SANDBOX (cutbox-door.mjs). By AI agents, Wed Nov 11 2026. No macro, syntax, notation, axiom, sorry.
-/
import Derived.Test.YthfphdbebnkdpaaDoorRows
import GoSem.ClaimSeven
namespace Go.Proofs.YthfphdbebnkdpaaDoor
namespace Rows

/-- THE TIED CARD OF 'triviumlaw07.WholeRing'. -/
def wholeRingCard : Claim7 := { stood := { row := wholeRingRow, standIns := [], harness := (true, "6f3d89cb78ba7352689dbf51e607f296757da7dbf6ad0a4c20ee1ae322084ad3"), looks := false }, kinds := [], alts := [], laidByText := true, laidKinds := [.data, .pinned], laidTests := true, laidLooks := .later }
def WholeRingCardSaid : Prop := Claim7.holds Tryd.pinned (.plain (OpenSpec.ofChange wholeRingSpec)) wholeRingCard

/-- THE TIED CARD OF 'triviumlaw22.CanonQueries'. -/
def canonQueriesCard : Claim7 := { stood := { row := canonQueriesRow, standIns := [], harness := (true, "6f3d89cb78ba7352689dbf51e607f296757da7dbf6ad0a4c20ee1ae322084ad3"), looks := false }, kinds := [], alts := [], laidByText := true, laidKinds := [.data, .data, .data, .data, .pinned], laidTests := true, laidLooks := .later }
def CanonQueriesCardSaid : Prop := Claim7.holds Tryd.pinned (.plain (OpenSpec.ofChange canonQueriesSpec)) canonQueriesCard

/-- THE TIED CARD OF 'triviumlaw21.AskreadBehind'. -/
def askreadBehindCard : Claim7 := { stood := { row := askreadBehindRow, standIns := [], harness := (true, "6f3d89cb78ba7352689dbf51e607f296757da7dbf6ad0a4c20ee1ae322084ad3"), looks := false }, kinds := [], alts := [], laidByText := true, laidKinds := [.data, .pinned], laidTests := true, laidLooks := .later }
def AskreadBehindCardSaid : Prop := Claim7.holds Tryd.pinned (.plain (OpenSpec.ofChange askreadBehindSpec)) askreadBehindCard

/-- THE SECOND FORM's CARD OF 'triviumlaw07.WholeRing'. -/
def wholeRingUptoCard : Claim7 := { stood := { row := wholeRingUptoRow, standIns := [], harness := (true, "6f3d89cb78ba7352689dbf51e607f296757da7dbf6ad0a4c20ee1ae322084ad3"), looks := false }, kinds := [], alts := [], laidByText := true, laidKinds := [.data, .pinned], laidTests := true, laidLooks := .later }
def WholeRingUptoCardSaid : Prop := Claim7.holds Tryd.pinned (.plain (OpenSpec.upto wholeRingSpec)) wholeRingUptoCard

/-- THE SECOND FORM's CARD OF 'triviumlaw22.CanonQueries'. -/
def canonQueriesUptoCard : Claim7 := { stood := { row := canonQueriesUptoRow, standIns := [], harness := (true, "6f3d89cb78ba7352689dbf51e607f296757da7dbf6ad0a4c20ee1ae322084ad3"), looks := false }, kinds := [], alts := [], laidByText := true, laidKinds := [.data, .data, .data, .data, .pinned], laidTests := true, laidLooks := .later }
def CanonQueriesUptoCardSaid : Prop := Claim7.holds Tryd.pinned (.plain (OpenSpec.upto canonQueriesSpec)) canonQueriesUptoCard

/-- THE SECOND FORM's CARD OF 'triviumlaw21.AskreadBehind'. -/
def askreadBehindUptoCard : Claim7 := { stood := { row := askreadBehindUptoRow, standIns := [], harness := (true, "6f3d89cb78ba7352689dbf51e607f296757da7dbf6ad0a4c20ee1ae322084ad3"), looks := false }, kinds := [], alts := [], laidByText := true, laidKinds := [.data, .pinned], laidTests := true, laidLooks := .later }
def AskreadBehindUptoCardSaid : Prop := Claim7.holds Tryd.pinned (.plain (OpenSpec.upto askreadBehindSpec)) askreadBehindUptoCard
end Rows
end Go.Proofs.YthfphdbebnkdpaaDoor
