/-
  No cell of these rows narrows 'for every input' (looked for: loops, veiled, ifaces, maps, wideKeys, modest, calm, conditions, laid).
  DERIVED. THE GIVEN ROWS OF THIS SEAT. 10 by the template 'for every input the law returns true; each argument reads behind the call as it read before'; 0 by the template 'total and deterministic' (their statements: YtihciioopdalnaaTotals.lean).
  GIVEN WITH THE SEED: the statements are not yours to turn. If you find one false, say at which input.
  Laid BY PROGRAM, IN A SANDBOX (cutbox-rows.mjs): the forced cells as the released guide's own fill.sh prints them over the translation 86fc19038145a5d3… (all of the seat's roots in one cut). By AI agents, Wed Nov 11 2026. No macro, syntax, notation, axiom, sorry.
-/
import Derived.Test.YtihciioopdalnaaChecked
import GoSem.Claim
import GoSem.ClaimJoined
import GoSem.ClaimMapViews
import Derived.JoinedTies
import Derived.KernelRfl
namespace Go.Proofs.Ytihciioopdalnaa
/- THE CELL 'sum', in the pinned program and in every row, IS THE sha256 OF THE DUMP (.gsa) THAT YtihciioopdalnaaProg.lean LOADS. Nothing in Lean hashes anything: it is a label: what it is worth is what the hold of that sum in a sandbox is worth. -/
noncomputable def Try.pinned : Pinned := { name := "ytihciioopdalnaa", sum := "86fc19038145a5d305a667e813a8990110ac7f8d2353878432c1db9f44a1a196", checked := Try.checked }
namespace Rows
def none {H : Type} : Left H := { results := [], args := [] }

/-- 'relaylaw15.ScheduleSecrets': WHATEVER THE INPUT: true; the input reads as it did. -/
def scheduleSecretsSpec : ChangeSpec := { name := "scheduleSecrets", fn := fun _ => fun
  | [d1, d2] => { results := [.lit (.bool true)], args := [d1, d2] }
  | _ => none }
def scheduleSecretsRow : OpenClaim := { program := "ytihciioopdalnaa", sum := "86fc19038145a5d305a667e813a8990110ac7f8d2353878432c1db9f44a1a196", func := "relay/relaylaw15.ScheduleSecrets", spec := "scheduleSecrets", unfollowed := true, recurses := true, apart := false }
def ScheduleSecretsSaid : Prop := scheduleSecretsRow.holds Try.pinned (OpenSpec.ofChange scheduleSecretsSpec)

/-- ITS FALSE NEIGHBOUR: 'it returns false'. Refute it at one input. -/
def scheduleSecretsWrong : ChangeSpec := { name := "scheduleSecrets", fn := fun _ => fun
  | [d1, d2] => { results := [.lit (.bool false)], args := [d1, d2] }
  | _ => none }
def ScheduleSecretsWrongFalsely : Prop := scheduleSecretsRow.holds Try.pinned (OpenSpec.ofChange scheduleSecretsWrong)

/-- 'relaylaw15.ScheduleTickets': WHATEVER THE INPUT: true; the input reads as it did. -/
def scheduleTicketsSpec : ChangeSpec := { name := "scheduleTickets", fn := fun _ => fun
  | [d1, d2, d3] => { results := [.lit (.bool true)], args := [d1, d2, d3] }
  | _ => none }
def scheduleTicketsRow : OpenClaim := { program := "ytihciioopdalnaa", sum := "86fc19038145a5d305a667e813a8990110ac7f8d2353878432c1db9f44a1a196", func := "relay/relaylaw15.ScheduleTickets", spec := "scheduleTickets", unfollowed := true, recurses := true, apart := false }
def ScheduleTicketsSaid : Prop := scheduleTicketsRow.holds Try.pinned (OpenSpec.ofChange scheduleTicketsSpec)

/-- ITS FALSE NEIGHBOUR: 'it returns false'. Refute it at one input. -/
def scheduleTicketsWrong : ChangeSpec := { name := "scheduleTickets", fn := fun _ => fun
  | [d1, d2, d3] => { results := [.lit (.bool false)], args := [d1, d2, d3] }
  | _ => none }
def ScheduleTicketsWrongFalsely : Prop := scheduleTicketsRow.holds Try.pinned (OpenSpec.ofChange scheduleTicketsWrong)

/-- 'relaylaw20.TicketsRows': WHATEVER THE INPUT: true; the input reads as it did. -/
def ticketsRowsSpec : ChangeSpec := { name := "ticketsRows", fn := fun _ => fun
  | [d1, d2] => { results := [.lit (.bool true)], args := [d1, d2] }
  | _ => none }
def ticketsRowsRow : OpenClaim := { program := "ytihciioopdalnaa", sum := "86fc19038145a5d305a667e813a8990110ac7f8d2353878432c1db9f44a1a196", func := "relay/relaylaw20.TicketsRows", spec := "ticketsRows", unfollowed := true, recurses := true, apart := false }
def TicketsRowsSaid : Prop := ticketsRowsRow.holds Try.pinned (OpenSpec.ofChange ticketsRowsSpec)

/-- ITS FALSE NEIGHBOUR: 'it returns false'. Refute it at one input. -/
def ticketsRowsWrong : ChangeSpec := { name := "ticketsRows", fn := fun _ => fun
  | [d1, d2] => { results := [.lit (.bool false)], args := [d1, d2] }
  | _ => none }
def TicketsRowsWrongFalsely : Prop := ticketsRowsRow.holds Try.pinned (OpenSpec.ofChange ticketsRowsWrong)

/-- 'relaylaw20.TicketsRaw': WHATEVER THE INPUT: true; the input reads as it did. -/
def ticketsRawSpec : ChangeSpec := { name := "ticketsRaw", fn := fun _ => fun
  | [d1, d2, d3] => { results := [.lit (.bool true)], args := [d1, d2, d3] }
  | _ => none }
def ticketsRawRow : OpenClaim := { program := "ytihciioopdalnaa", sum := "86fc19038145a5d305a667e813a8990110ac7f8d2353878432c1db9f44a1a196", func := "relay/relaylaw20.TicketsRaw", spec := "ticketsRaw", unfollowed := true, recurses := true, apart := false }
def TicketsRawSaid : Prop := ticketsRawRow.holds Try.pinned (OpenSpec.ofChange ticketsRawSpec)

/-- ITS FALSE NEIGHBOUR: 'it returns false'. Refute it at one input. -/
def ticketsRawWrong : ChangeSpec := { name := "ticketsRaw", fn := fun _ => fun
  | [d1, d2, d3] => { results := [.lit (.bool false)], args := [d1, d2, d3] }
  | _ => none }
def TicketsRawWrongFalsely : Prop := ticketsRawRow.holds Try.pinned (OpenSpec.ofChange ticketsRawWrong)

/-- 'relaylaw20.TicketsKeys': WHATEVER THE INPUT: true; the input reads as it did. -/
def ticketsKeysSpec : ChangeSpec := { name := "ticketsKeys", fn := fun _ => fun
  | [d1, d2, d3] => { results := [.lit (.bool true)], args := [d1, d2, d3] }
  | _ => none }
def ticketsKeysRow : OpenClaim := { program := "ytihciioopdalnaa", sum := "86fc19038145a5d305a667e813a8990110ac7f8d2353878432c1db9f44a1a196", func := "relay/relaylaw20.TicketsKeys", spec := "ticketsKeys", unfollowed := true, recurses := true, apart := false }
def TicketsKeysSaid : Prop := ticketsKeysRow.holds Try.pinned (OpenSpec.ofChange ticketsKeysSpec)

/-- ITS FALSE NEIGHBOUR: 'it returns false'. Refute it at one input. -/
def ticketsKeysWrong : ChangeSpec := { name := "ticketsKeys", fn := fun _ => fun
  | [d1, d2, d3] => { results := [.lit (.bool false)], args := [d1, d2, d3] }
  | _ => none }
def TicketsKeysWrongFalsely : Prop := ticketsKeysRow.holds Try.pinned (OpenSpec.ofChange ticketsKeysWrong)

/-- 'relaylaw15.ScheduleNames': WHATEVER THE INPUT: true; the input reads as it did. -/
def scheduleNamesSpec : ChangeSpec := { name := "scheduleNames", fn := fun _ => fun
  | [d1, d2, d3] => { results := [.lit (.bool true)], args := [d1, d2, d3] }
  | _ => none }
def scheduleNamesRow : OpenClaim := { program := "ytihciioopdalnaa", sum := "86fc19038145a5d305a667e813a8990110ac7f8d2353878432c1db9f44a1a196", func := "relay/relaylaw15.ScheduleNames", spec := "scheduleNames", inPlace := ["internal/abi.NoEscape", "internal/bytealg.MakeNoZero"], unfollowed := true, recurses := true, apart := false }
def ScheduleNamesSaid : Prop := scheduleNamesRow.holds Try.pinned (OpenSpec.ofChange scheduleNamesSpec)

/-- ITS FALSE NEIGHBOUR: 'it returns false'. Refute it at one input. -/
def scheduleNamesWrong : ChangeSpec := { name := "scheduleNames", fn := fun _ => fun
  | [d1, d2, d3] => { results := [.lit (.bool false)], args := [d1, d2, d3] }
  | _ => none }
def ScheduleNamesWrongFalsely : Prop := scheduleNamesRow.holds Try.pinned (OpenSpec.ofChange scheduleNamesWrong)

/-- 'relaylaw15.ScheduleApart': WHATEVER THE INPUT: true; the input reads as it did. -/
def scheduleApartSpec : ChangeSpec := { name := "scheduleApart", fn := fun _ => fun
  | [d1, d2, d3] => { results := [.lit (.bool true)], args := [d1, d2, d3] }
  | _ => none }
def scheduleApartRow : OpenClaim := { program := "ytihciioopdalnaa", sum := "86fc19038145a5d305a667e813a8990110ac7f8d2353878432c1db9f44a1a196", func := "relay/relaylaw15.ScheduleApart", spec := "scheduleApart", inPlace := ["internal/abi.NoEscape", "internal/bytealg.MakeNoZero"], unfollowed := true, recurses := true, apart := false }
def ScheduleApartSaid : Prop := scheduleApartRow.holds Try.pinned (OpenSpec.ofChange scheduleApartSpec)

/-- ITS FALSE NEIGHBOUR: 'it returns false'. Refute it at one input. -/
def scheduleApartWrong : ChangeSpec := { name := "scheduleApart", fn := fun _ => fun
  | [d1, d2, d3] => { results := [.lit (.bool false)], args := [d1, d2, d3] }
  | _ => none }
def ScheduleApartWrongFalsely : Prop := scheduleApartRow.holds Try.pinned (OpenSpec.ofChange scheduleApartWrong)

/-- 'relaylaw19.VaultSeals': WHATEVER THE INPUT: true; the input reads as it did. -/
def vaultSealsSpec : ChangeSpec := { name := "vaultSeals", fn := fun _ => fun
  | [d1, d2, d3] => { results := [.lit (.bool true)], args := [d1, d2, d3] }
  | _ => none }
def vaultSealsRow : OpenClaim := { program := "ytihciioopdalnaa", sum := "86fc19038145a5d305a667e813a8990110ac7f8d2353878432c1db9f44a1a196", func := "relay/relaylaw19.VaultSeals", spec := "vaultSeals", inPlace := ["math/bits.Add64"], unfollowed := true, recurses := true, apart := false }
def VaultSealsSaid : Prop := vaultSealsRow.holds Try.pinned (OpenSpec.ofChange vaultSealsSpec)

/-- ITS FALSE NEIGHBOUR: 'it returns false'. Refute it at one input. -/
def vaultSealsWrong : ChangeSpec := { name := "vaultSeals", fn := fun _ => fun
  | [d1, d2, d3] => { results := [.lit (.bool false)], args := [d1, d2, d3] }
  | _ => none }
def VaultSealsWrongFalsely : Prop := vaultSealsRow.holds Try.pinned (OpenSpec.ofChange vaultSealsWrong)

/-- 'relaylaw19.VaultOpens': WHATEVER THE INPUT: true; the input reads as it did. -/
def vaultOpensSpec : ChangeSpec := { name := "vaultOpens", fn := fun _ => fun
  | [d1, d2, d3] => { results := [.lit (.bool true)], args := [d1, d2, d3] }
  | _ => none }
def vaultOpensRow : OpenClaim := { program := "ytihciioopdalnaa", sum := "86fc19038145a5d305a667e813a8990110ac7f8d2353878432c1db9f44a1a196", func := "relay/relaylaw19.VaultOpens", spec := "vaultOpens", inPlace := ["math/bits.Add64"], unfollowed := true, recurses := true, apart := false }
def VaultOpensSaid : Prop := vaultOpensRow.holds Try.pinned (OpenSpec.ofChange vaultOpensSpec)

/-- ITS FALSE NEIGHBOUR: 'it returns false'. Refute it at one input. -/
def vaultOpensWrong : ChangeSpec := { name := "vaultOpens", fn := fun _ => fun
  | [d1, d2, d3] => { results := [.lit (.bool false)], args := [d1, d2, d3] }
  | _ => none }
def VaultOpensWrongFalsely : Prop := vaultOpensRow.holds Try.pinned (OpenSpec.ofChange vaultOpensWrong)

/-- 'relaylaw19.VaultApart': WHATEVER THE INPUT: true; the input reads as it did. -/
def vaultApartSpec : ChangeSpec := { name := "vaultApart", fn := fun _ => fun
  | [d1, d2, d3] => { results := [.lit (.bool true)], args := [d1, d2, d3] }
  | _ => none }
def vaultApartRow : OpenClaim := { program := "ytihciioopdalnaa", sum := "86fc19038145a5d305a667e813a8990110ac7f8d2353878432c1db9f44a1a196", func := "relay/relaylaw19.VaultApart", spec := "vaultApart", inPlace := ["math/bits.Add64"], unfollowed := true, recurses := true, apart := false }
def VaultApartSaid : Prop := vaultApartRow.holds Try.pinned (OpenSpec.ofChange vaultApartSpec)

/-- ITS FALSE NEIGHBOUR: 'it returns false'. Refute it at one input. -/
def vaultApartWrong : ChangeSpec := { name := "vaultApart", fn := fun _ => fun
  | [d1, d2, d3] => { results := [.lit (.bool false)], args := [d1, d2, d3] }
  | _ => none }
def VaultApartWrongFalsely : Prop := vaultApartRow.holds Try.pinned (OpenSpec.ofChange vaultApartWrong)

/- THE SECOND FORM. 'bulk': how many values and letters a reading holds, each counted each time it is reached (what is shared counts as often as it is met; a slice's spare places count too). A statement '..UptoSaid' is the law's where the arguments, and the package variables that the reading takes, are together of bulk at most 1048576: NARROWER than '..Said'. Prove '..Said' where nothing that the law and all that it calls make is longer than what came in: it says more and counts as full. Else prove '..UptoSaid'. A law counts once. -/
mutual
def uptoBulk {H : Type} : DataW H → Nat
  | .lit (.string bytes) => bytes.length + 1
  | .lit _ => 1
  | .nil => 1
  | .ptr d => uptoBulk d + 1
  | .slice elems spare => uptoBulkAll elems + uptoBulkAll spare + 1
  | .agg parts => uptoBulkAll parts + 1
  | .iface _ d => uptoBulk d + 1
  | .map entries => uptoBulkEntries entries + 1
  | .held _ => 1
def uptoBulkAll {H : Type} : List (DataW H) → Nat
  | [] => 0
  | d :: r => uptoBulk d + uptoBulkAll r
def uptoBulkEntries {H : Type} : List (Lit × DataW H) → Nat
  | [] => 0
  | x :: r => uptoBulkEntry x + uptoBulkEntries r
def uptoBulkEntry {H : Type} : Lit × DataW H → Nat
  | (.string bytes, d) => bytes.length + uptoBulk d + 1
  | (_, d) => uptoBulk d + 1
 end
def uptoSmall : (H : Type) → List (DataW H) → Bool := fun _ ds => decide (uptoBulkAll ds ≤ 1048576)
def OpenSpec.upto (s : _root_.Go.ChangeSpec) : _root_.Go.OpenSpec := { _root_.Go.OpenSpec.ofChange s with cond := some uptoSmall }

/-- 'relaylaw15.ScheduleSecrets', WHERE WHAT IT READS IS OF BULK AT MOST 1048576: true; the input reads as it did. -/
def scheduleSecretsUptoRow : OpenClaim := { program := "ytihciioopdalnaa", sum := "86fc19038145a5d305a667e813a8990110ac7f8d2353878432c1db9f44a1a196", func := "relay/relaylaw15.ScheduleSecrets", spec := "scheduleSecrets", unfollowed := true, recurses := true, apart := false, narrowed := true }
def ScheduleSecretsUptoSaid : Prop := scheduleSecretsUptoRow.holds Try.pinned (OpenSpec.upto scheduleSecretsSpec)

/-- 'relaylaw15.ScheduleTickets', WHERE WHAT IT READS IS OF BULK AT MOST 1048576: true; the input reads as it did. -/
def scheduleTicketsUptoRow : OpenClaim := { program := "ytihciioopdalnaa", sum := "86fc19038145a5d305a667e813a8990110ac7f8d2353878432c1db9f44a1a196", func := "relay/relaylaw15.ScheduleTickets", spec := "scheduleTickets", unfollowed := true, recurses := true, apart := false, narrowed := true }
def ScheduleTicketsUptoSaid : Prop := scheduleTicketsUptoRow.holds Try.pinned (OpenSpec.upto scheduleTicketsSpec)

/-- 'relaylaw20.TicketsRows', WHERE WHAT IT READS IS OF BULK AT MOST 1048576: true; the input reads as it did. -/
def ticketsRowsUptoRow : OpenClaim := { program := "ytihciioopdalnaa", sum := "86fc19038145a5d305a667e813a8990110ac7f8d2353878432c1db9f44a1a196", func := "relay/relaylaw20.TicketsRows", spec := "ticketsRows", unfollowed := true, recurses := true, apart := false, narrowed := true }
def TicketsRowsUptoSaid : Prop := ticketsRowsUptoRow.holds Try.pinned (OpenSpec.upto ticketsRowsSpec)

/-- 'relaylaw20.TicketsRaw', WHERE WHAT IT READS IS OF BULK AT MOST 1048576: true; the input reads as it did. -/
def ticketsRawUptoRow : OpenClaim := { program := "ytihciioopdalnaa", sum := "86fc19038145a5d305a667e813a8990110ac7f8d2353878432c1db9f44a1a196", func := "relay/relaylaw20.TicketsRaw", spec := "ticketsRaw", unfollowed := true, recurses := true, apart := false, narrowed := true }
def TicketsRawUptoSaid : Prop := ticketsRawUptoRow.holds Try.pinned (OpenSpec.upto ticketsRawSpec)

/-- 'relaylaw20.TicketsKeys', WHERE WHAT IT READS IS OF BULK AT MOST 1048576: true; the input reads as it did. -/
def ticketsKeysUptoRow : OpenClaim := { program := "ytihciioopdalnaa", sum := "86fc19038145a5d305a667e813a8990110ac7f8d2353878432c1db9f44a1a196", func := "relay/relaylaw20.TicketsKeys", spec := "ticketsKeys", unfollowed := true, recurses := true, apart := false, narrowed := true }
def TicketsKeysUptoSaid : Prop := ticketsKeysUptoRow.holds Try.pinned (OpenSpec.upto ticketsKeysSpec)

/-- 'relaylaw15.ScheduleNames', WHERE WHAT IT READS IS OF BULK AT MOST 1048576: true; the input reads as it did. -/
def scheduleNamesUptoRow : OpenClaim := { program := "ytihciioopdalnaa", sum := "86fc19038145a5d305a667e813a8990110ac7f8d2353878432c1db9f44a1a196", func := "relay/relaylaw15.ScheduleNames", spec := "scheduleNames", inPlace := ["internal/abi.NoEscape", "internal/bytealg.MakeNoZero"], unfollowed := true, recurses := true, apart := false, narrowed := true }
def ScheduleNamesUptoSaid : Prop := scheduleNamesUptoRow.holds Try.pinned (OpenSpec.upto scheduleNamesSpec)

/-- 'relaylaw15.ScheduleApart', WHERE WHAT IT READS IS OF BULK AT MOST 1048576: true; the input reads as it did. -/
def scheduleApartUptoRow : OpenClaim := { program := "ytihciioopdalnaa", sum := "86fc19038145a5d305a667e813a8990110ac7f8d2353878432c1db9f44a1a196", func := "relay/relaylaw15.ScheduleApart", spec := "scheduleApart", inPlace := ["internal/abi.NoEscape", "internal/bytealg.MakeNoZero"], unfollowed := true, recurses := true, apart := false, narrowed := true }
def ScheduleApartUptoSaid : Prop := scheduleApartUptoRow.holds Try.pinned (OpenSpec.upto scheduleApartSpec)

/-- 'relaylaw19.VaultSeals', WHERE WHAT IT READS IS OF BULK AT MOST 1048576: true; the input reads as it did. -/
def vaultSealsUptoRow : OpenClaim := { program := "ytihciioopdalnaa", sum := "86fc19038145a5d305a667e813a8990110ac7f8d2353878432c1db9f44a1a196", func := "relay/relaylaw19.VaultSeals", spec := "vaultSeals", inPlace := ["math/bits.Add64"], unfollowed := true, recurses := true, apart := false, narrowed := true }
def VaultSealsUptoSaid : Prop := vaultSealsUptoRow.holds Try.pinned (OpenSpec.upto vaultSealsSpec)

/-- 'relaylaw19.VaultOpens', WHERE WHAT IT READS IS OF BULK AT MOST 1048576: true; the input reads as it did. -/
def vaultOpensUptoRow : OpenClaim := { program := "ytihciioopdalnaa", sum := "86fc19038145a5d305a667e813a8990110ac7f8d2353878432c1db9f44a1a196", func := "relay/relaylaw19.VaultOpens", spec := "vaultOpens", inPlace := ["math/bits.Add64"], unfollowed := true, recurses := true, apart := false, narrowed := true }
def VaultOpensUptoSaid : Prop := vaultOpensUptoRow.holds Try.pinned (OpenSpec.upto vaultOpensSpec)

/-- 'relaylaw19.VaultApart', WHERE WHAT IT READS IS OF BULK AT MOST 1048576: true; the input reads as it did. -/
def vaultApartUptoRow : OpenClaim := { program := "ytihciioopdalnaa", sum := "86fc19038145a5d305a667e813a8990110ac7f8d2353878432c1db9f44a1a196", func := "relay/relaylaw19.VaultApart", spec := "vaultApart", inPlace := ["math/bits.Add64"], unfollowed := true, recurses := true, apart := false, narrowed := true }
def VaultApartUptoSaid : Prop := vaultApartUptoRow.holds Try.pinned (OpenSpec.upto vaultApartSpec)

end Rows
end Go.Proofs.Ytihciioopdalnaa
