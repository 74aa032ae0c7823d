/-
  DERIVED. GIVEN WITH THE SEED: THE CARDS: each row of YtcjfkmhijfcciaaDoorRows.lean that lists a variable, with what it lists TIED to the program's text (the seventh form; the later family's looks); each row that meets fmt, with fmt's text TOLD by the authors' own Lean function (tested against real Go, not proved from fmt's source: count such statements apart). THE CARD IS WHAT COUNTS. Prove the row's statement (the work); the ties are given (YtcjfkmhijfcciaaDoorTie.lean); close each card by the builder's one call (the guide's Derived/Test/ToyasCard.lean, 'card_holds'). Laid BY PROGRAM, IN A SANDBOX (cutbox-door.mjs). By AI agents, Wed Nov 11 2026. No macro, syntax, notation, axiom, sorry.
-/
import Derived.Test.YtcjfkmhijfcciaaDoorRows
import GoSem.ClaimSeven
namespace Go.Proofs.YtcjfkmhijfcciaaDoor
namespace Rows

/-- THE TIED CARD OF 'relaytop.RelayTurns'. -/
def relayTurnsCard : Claim7 := { stood := { row := relayTurnsRow, standIns := [], harness := (true, "be69ebfb899747dbfd77b3e1366124287832060ac2eb7450c46c5f3cb1a927a9"), looks := false }, kinds := [], alts := [], laidByText := true, laidKinds := [.data, .pinned], laidTests := true, laidLooks := .later }
def RelayTurnsCardSaid : Prop := Claim7.holds Tryd.pinned (.plain (OpenSpec.ofChange relayTurnsSpec)) relayTurnsCard

/-- THE TIED CARD OF 'relaytop.RelayRecords'. -/
def relayRecordsCard : Claim7 := { stood := { row := relayRecordsRow, standIns := [], harness := (true, "be69ebfb899747dbfd77b3e1366124287832060ac2eb7450c46c5f3cb1a927a9"), looks := false }, kinds := [], alts := [], laidByText := true, laidKinds := [.data, .pinned], laidTests := true, laidLooks := .later }
def RelayRecordsCardSaid : Prop := Claim7.holds Tryd.pinned (.plain (OpenSpec.ofChange relayRecordsSpec)) relayRecordsCard

/-- THE SECOND FORM's CARD OF 'relaytop.RelayTurns'. -/
def relayTurnsUptoCard : Claim7 := { stood := { row := relayTurnsUptoRow, standIns := [], harness := (true, "be69ebfb899747dbfd77b3e1366124287832060ac2eb7450c46c5f3cb1a927a9"), looks := false }, kinds := [], alts := [], laidByText := true, laidKinds := [.data, .pinned], laidTests := true, laidLooks := .later }
def RelayTurnsUptoCardSaid : Prop := Claim7.holds Tryd.pinned (.plain (OpenSpec.upto relayTurnsSpec)) relayTurnsUptoCard

/-- THE SECOND FORM's CARD OF 'relaytop.RelayRecords'. -/
def relayRecordsUptoCard : Claim7 := { stood := { row := relayRecordsUptoRow, standIns := [], harness := (true, "be69ebfb899747dbfd77b3e1366124287832060ac2eb7450c46c5f3cb1a927a9"), looks := false }, kinds := [], alts := [], laidByText := true, laidKinds := [.data, .pinned], laidTests := true, laidLooks := .later }
def RelayRecordsUptoCardSaid : Prop := Claim7.holds Tryd.pinned (.plain (OpenSpec.upto relayRecordsSpec)) relayRecordsUptoCard
end Rows
end Go.Proofs.YtcjfkmhijfcciaaDoor
