/-
  DERIVED. GIVEN WITH THE SEED: THE CARDS: each row of YteidaijpaijgpaaGreatDoorRows.lean that lists a variable, with what it lists TIED to the program's text (the seventh form; the later family's looks); each row that meets fmt, with fmt's text TOLD by the authors' own Lean function (tested against real Go, not proved from fmt's source: count such statements apart). THE CARD IS WHAT COUNTS. Prove the row's statement (the work); the ties are given (YteidaijpaijgpaaGreatDoorTie.lean); close each card by the builder's one call (the guide's Derived/Test/ToyasCard.lean, 'card_holds'). Laid BY PROGRAM, IN A SANDBOX (cutbox-door.mjs). By AI agents, Wed Nov 11 2026. No macro, syntax, notation, axiom, sorry.
-/
import Derived.Test.YteidaijpaijgpaaGreatDoorRows
import GoSem.ClaimSeven
namespace Go.Proofs.YteidaijpaijgpaaGreatDoor
namespace Rows

/-- THE TIED CARD OF 'triviumlaw22.CanonNets'. -/
def canonNetsCard : Claim7 := { stood := { row := canonNetsRow, standIns := [], harness := (true, "000b7728b869e6f88b06757c5fa921b5ea4042237690d6e41546b9cd936cc4e7"), looks := false }, kinds := [], alts := [], laidByText := true, laidKinds := [.data, .data, .data, .data, .pinned], laidTests := true, laidLooks := .later }
def CanonNetsCardSaid : Prop := Claim7.holds Tryz.pinned (.plain (OpenSpec.ofChange canonNetsSpec)) canonNetsCard

/-- THE TIED CARD OF 'triviumlaw24.LimitsNets'. -/
def limitsNetsCard : Claim7 := { stood := { row := limitsNetsRow, standIns := [], harness := (true, "000b7728b869e6f88b06757c5fa921b5ea4042237690d6e41546b9cd936cc4e7"), looks := false }, kinds := [], alts := [], laidByText := true, laidKinds := [.data, .data, .data, .data, .pinned], laidTests := true, laidLooks := .later }
def LimitsNetsCardSaid : Prop := Claim7.holds Tryz.pinned (.plain (OpenSpec.ofChange limitsNetsSpec)) limitsNetsCard

/-- THE TIED CARD OF 'triviumlaw24.LimitsQueries'. -/
def limitsQueriesCard : Claim7 := { stood := { row := limitsQueriesRow, standIns := [], harness := (true, "000b7728b869e6f88b06757c5fa921b5ea4042237690d6e41546b9cd936cc4e7"), looks := false }, kinds := [], alts := [], laidByText := true, laidKinds := [.data, .data, .data, .data, .pinned], laidTests := true, laidLooks := .later }
def LimitsQueriesCardSaid : Prop := Claim7.holds Tryz.pinned (.plain (OpenSpec.ofChange limitsQueriesSpec)) limitsQueriesCard

/-- THE TIED CARD OF 'triviumlaw24.LimitsFewer'. -/
def limitsFewerCard : Claim7 := { stood := { row := limitsFewerRow, standIns := [], harness := (true, "000b7728b869e6f88b06757c5fa921b5ea4042237690d6e41546b9cd936cc4e7"), looks := false }, kinds := [], alts := [], laidByText := true, laidKinds := [.data, .data, .data, .data, .pinned], laidTests := true, laidLooks := .later }
def LimitsFewerCardSaid : Prop := Claim7.holds Tryz.pinned (.plain (OpenSpec.ofChange limitsFewerSpec)) limitsFewerCard

/-- THE SECOND FORM's CARD OF 'triviumlaw22.CanonNets'. -/
def canonNetsUptoCard : Claim7 := { stood := { row := canonNetsUptoRow, standIns := [], harness := (true, "000b7728b869e6f88b06757c5fa921b5ea4042237690d6e41546b9cd936cc4e7"), looks := false }, kinds := [], alts := [], laidByText := true, laidKinds := [.data, .data, .data, .data, .pinned], laidTests := true, laidLooks := .later }
def CanonNetsUptoCardSaid : Prop := Claim7.holds Tryz.pinned (.plain (OpenSpec.upto canonNetsSpec)) canonNetsUptoCard

/-- THE SECOND FORM's CARD OF 'triviumlaw24.LimitsNets'. -/
def limitsNetsUptoCard : Claim7 := { stood := { row := limitsNetsUptoRow, standIns := [], harness := (true, "000b7728b869e6f88b06757c5fa921b5ea4042237690d6e41546b9cd936cc4e7"), looks := false }, kinds := [], alts := [], laidByText := true, laidKinds := [.data, .data, .data, .data, .pinned], laidTests := true, laidLooks := .later }
def LimitsNetsUptoCardSaid : Prop := Claim7.holds Tryz.pinned (.plain (OpenSpec.upto limitsNetsSpec)) limitsNetsUptoCard

/-- THE SECOND FORM's CARD OF 'triviumlaw24.LimitsQueries'. -/
def limitsQueriesUptoCard : Claim7 := { stood := { row := limitsQueriesUptoRow, standIns := [], harness := (true, "000b7728b869e6f88b06757c5fa921b5ea4042237690d6e41546b9cd936cc4e7"), looks := false }, kinds := [], alts := [], laidByText := true, laidKinds := [.data, .data, .data, .data, .pinned], laidTests := true, laidLooks := .later }
def LimitsQueriesUptoCardSaid : Prop := Claim7.holds Tryz.pinned (.plain (OpenSpec.upto limitsQueriesSpec)) limitsQueriesUptoCard

/-- THE SECOND FORM's CARD OF 'triviumlaw24.LimitsFewer'. -/
def limitsFewerUptoCard : Claim7 := { stood := { row := limitsFewerUptoRow, standIns := [], harness := (true, "000b7728b869e6f88b06757c5fa921b5ea4042237690d6e41546b9cd936cc4e7"), looks := false }, kinds := [], alts := [], laidByText := true, laidKinds := [.data, .data, .data, .data, .pinned], laidTests := true, laidLooks := .later }
def LimitsFewerUptoCardSaid : Prop := Claim7.holds Tryz.pinned (.plain (OpenSpec.upto limitsFewerSpec)) limitsFewerUptoCard
end Rows
end Go.Proofs.YteidaijpaijgpaaGreatDoor
