/-
  DERIVED. GIVEN WITH THE SEED: THE CARDS: each row of YtablmdbonibjaaaDoorRows.lean that lists a variable, with what it lists TIED to the program's text (the seventh form; the later family's looks); each row that meets fmt, with fmt's text TOLD by the authors' own Lean function (tested against real Go, not proved from fmt's source: count such statements apart). THE CARD IS WHAT COUNTS. Prove the row's statement (the work); the ties are given (YtablmdbonibjaaaDoorTie.lean); close each card by the builder's one call (the guide's Derived/Test/ToyasCard.lean, 'card_holds'). Laid BY PROGRAM, IN A SANDBOX (cutbox-door.mjs). By AI agents, Wed Nov 11 2026. No macro, syntax, notation, axiom, sorry.
-/
import Derived.Test.YtablmdbonibjaaaDoorRows
import GoSem.ClaimSeven
namespace Go.Proofs.YtablmdbonibjaaaDoor
namespace Rows

/-- THE TIED CARD OF 'relaylaw12.RecordSeals'. -/
def recordSealsCard : Claim7 := { stood := { row := recordSealsRow, standIns := [], harness := (true, "8f3433c45943626f0c0dadb02d5dd2d3bfd4eb3ef7946a4c7f7ab830b2693428"), looks := false }, kinds := [], alts := [], laidByText := true, laidKinds := [.data, .pinned], laidTests := true, laidLooks := .later }
def RecordSealsCardSaid : Prop := Claim7.holds Tryd.pinned (.plain (OpenSpec.ofChange recordSealsSpec)) recordSealsCard

/-- THE TIED CARD OF 'relaylaw12.RecordOpens'. -/
def recordOpensCard : Claim7 := { stood := { row := recordOpensRow, standIns := [], harness := (true, "8f3433c45943626f0c0dadb02d5dd2d3bfd4eb3ef7946a4c7f7ab830b2693428"), looks := false }, kinds := [], alts := [], laidByText := true, laidKinds := [.data, .pinned], laidTests := true, laidLooks := .later }
def RecordOpensCardSaid : Prop := Claim7.holds Tryd.pinned (.plain (OpenSpec.ofChange recordOpensSpec)) recordOpensCard

/-- THE TIED CARD OF 'relaylaw12.RecordPads'. -/
def recordPadsCard : Claim7 := { stood := { row := recordPadsRow, standIns := [], harness := (true, "8f3433c45943626f0c0dadb02d5dd2d3bfd4eb3ef7946a4c7f7ab830b2693428"), looks := false }, kinds := [], alts := [], laidByText := true, laidKinds := [.data, .pinned], laidTests := true, laidLooks := .later }
def RecordPadsCardSaid : Prop := Claim7.holds Tryd.pinned (.plain (OpenSpec.ofChange recordPadsSpec)) recordPadsCard

/-- THE TIED CARD OF 'relaylaw12.RecordKeys'. -/
def recordKeysCard : Claim7 := { stood := { row := recordKeysRow, standIns := [], harness := (true, "8f3433c45943626f0c0dadb02d5dd2d3bfd4eb3ef7946a4c7f7ab830b2693428"), looks := false }, kinds := [], alts := [], laidByText := true, laidKinds := [.data, .pinned], laidTests := true, laidLooks := .later }
def RecordKeysCardSaid : Prop := Claim7.holds Tryd.pinned (.plain (OpenSpec.ofChange recordKeysSpec)) recordKeysCard

/-- THE TIED CARD OF 'relaylaw12.RecordEpochs'. -/
def recordEpochsCard : Claim7 := { stood := { row := recordEpochsRow, standIns := [], harness := (true, "8f3433c45943626f0c0dadb02d5dd2d3bfd4eb3ef7946a4c7f7ab830b2693428"), looks := false }, kinds := [], alts := [], laidByText := true, laidKinds := [.data, .pinned], laidTests := true, laidLooks := .later }
def RecordEpochsCardSaid : Prop := Claim7.holds Tryd.pinned (.plain (OpenSpec.ofChange recordEpochsSpec)) recordEpochsCard

/-- THE TIED CARD OF 'relaylaw12.RecordParts'. -/
def recordPartsCard : Claim7 := { stood := { row := recordPartsRow, standIns := [], harness := (true, "8f3433c45943626f0c0dadb02d5dd2d3bfd4eb3ef7946a4c7f7ab830b2693428"), looks := false }, kinds := [], alts := [], laidByText := true, laidKinds := [.data, .pinned], laidTests := true, laidLooks := .later }
def RecordPartsCardSaid : Prop := Claim7.holds Tryd.pinned (.plain (OpenSpec.ofChange recordPartsSpec)) recordPartsCard

/-- THE SECOND FORM's CARD OF 'relaylaw12.RecordSeals'. -/
def recordSealsUptoCard : Claim7 := { stood := { row := recordSealsUptoRow, standIns := [], harness := (true, "8f3433c45943626f0c0dadb02d5dd2d3bfd4eb3ef7946a4c7f7ab830b2693428"), looks := false }, kinds := [], alts := [], laidByText := true, laidKinds := [.data, .pinned], laidTests := true, laidLooks := .later }
def RecordSealsUptoCardSaid : Prop := Claim7.holds Tryd.pinned (.plain (OpenSpec.upto recordSealsSpec)) recordSealsUptoCard

/-- THE SECOND FORM's CARD OF 'relaylaw12.RecordOpens'. -/
def recordOpensUptoCard : Claim7 := { stood := { row := recordOpensUptoRow, standIns := [], harness := (true, "8f3433c45943626f0c0dadb02d5dd2d3bfd4eb3ef7946a4c7f7ab830b2693428"), looks := false }, kinds := [], alts := [], laidByText := true, laidKinds := [.data, .pinned], laidTests := true, laidLooks := .later }
def RecordOpensUptoCardSaid : Prop := Claim7.holds Tryd.pinned (.plain (OpenSpec.upto recordOpensSpec)) recordOpensUptoCard

/-- THE SECOND FORM's CARD OF 'relaylaw12.RecordPads'. -/
def recordPadsUptoCard : Claim7 := { stood := { row := recordPadsUptoRow, standIns := [], harness := (true, "8f3433c45943626f0c0dadb02d5dd2d3bfd4eb3ef7946a4c7f7ab830b2693428"), looks := false }, kinds := [], alts := [], laidByText := true, laidKinds := [.data, .pinned], laidTests := true, laidLooks := .later }
def RecordPadsUptoCardSaid : Prop := Claim7.holds Tryd.pinned (.plain (OpenSpec.upto recordPadsSpec)) recordPadsUptoCard

/-- THE SECOND FORM's CARD OF 'relaylaw12.RecordKeys'. -/
def recordKeysUptoCard : Claim7 := { stood := { row := recordKeysUptoRow, standIns := [], harness := (true, "8f3433c45943626f0c0dadb02d5dd2d3bfd4eb3ef7946a4c7f7ab830b2693428"), looks := false }, kinds := [], alts := [], laidByText := true, laidKinds := [.data, .pinned], laidTests := true, laidLooks := .later }
def RecordKeysUptoCardSaid : Prop := Claim7.holds Tryd.pinned (.plain (OpenSpec.upto recordKeysSpec)) recordKeysUptoCard

/-- THE SECOND FORM's CARD OF 'relaylaw12.RecordEpochs'. -/
def recordEpochsUptoCard : Claim7 := { stood := { row := recordEpochsUptoRow, standIns := [], harness := (true, "8f3433c45943626f0c0dadb02d5dd2d3bfd4eb3ef7946a4c7f7ab830b2693428"), looks := false }, kinds := [], alts := [], laidByText := true, laidKinds := [.data, .pinned], laidTests := true, laidLooks := .later }
def RecordEpochsUptoCardSaid : Prop := Claim7.holds Tryd.pinned (.plain (OpenSpec.upto recordEpochsSpec)) recordEpochsUptoCard

/-- THE SECOND FORM's CARD OF 'relaylaw12.RecordParts'. -/
def recordPartsUptoCard : Claim7 := { stood := { row := recordPartsUptoRow, standIns := [], harness := (true, "8f3433c45943626f0c0dadb02d5dd2d3bfd4eb3ef7946a4c7f7ab830b2693428"), looks := false }, kinds := [], alts := [], laidByText := true, laidKinds := [.data, .pinned], laidTests := true, laidLooks := .later }
def RecordPartsUptoCardSaid : Prop := Claim7.holds Tryd.pinned (.plain (OpenSpec.upto recordPartsSpec)) recordPartsUptoCard
end Rows
end Go.Proofs.YtablmdbonibjaaaDoor
