/-
  No cell of these rows narrows 'for every input' (looked for: loops, veiled, ifaces, maps, wideKeys, modest, calm, conditions, laid).
  DERIVED. THE GIVEN ROWS OF THIS SEAT. 6 by the template 'for every input the law returns true; each argument reads behind the call as it read before'; 0 by the template 'total and deterministic' (their statements: YtdingfinclcbgaaTotals.lean).
  GIVEN WITH THE SEED: the statements are not yours to turn. If you find one false, say at which input.
  Laid BY PROGRAM, IN A SANDBOX (cutbox-rows.mjs): the forced cells as the released guide's own fill.sh prints them over the translation c7716334bd330ebd… (all of the seat's roots in one cut). By AI agents, Wed Nov 11 2026. No macro, syntax, notation, axiom, sorry.
-/
import Derived.Test.YtdingfinclcbgaaChecked
import GoSem.Claim
import GoSem.ClaimJoined
import GoSem.ClaimMapViews
import Derived.JoinedTies
import Derived.KernelRfl
namespace Go.Proofs.Ytdingfinclcbgaa
/- THE CELL 'sum', in the pinned program and in every row, IS THE sha256 OF THE DUMP (.gsa) THAT YtdingfinclcbgaaProg.lean LOADS. Nothing in Lean hashes anything: it is a label: what it is worth is what the hold of that sum in a sandbox is worth. -/
noncomputable def Try.pinned : Pinned := { name := "ytdingfinclcbgaa", sum := "c7716334bd330ebd2c230aab6117de2f0f21766a503697c5ba786f0f42bb83db", checked := Try.checked }
namespace Rows
def none {H : Type} : Left H := { results := [], args := [] }

/-- 'relaylaw10.DiskFails': WHATEVER THE INPUT: true; the input reads as it did. -/
def diskFailsSpec : ChangeSpec := { name := "diskFails", fn := fun _ => fun
  | [d1, d2, d3] => { results := [.lit (.bool true)], args := [d1, d2, d3] }
  | _ => none }
def diskFailsRow : OpenClaim := { program := "ytdingfinclcbgaa", sum := "c7716334bd330ebd2c230aab6117de2f0f21766a503697c5ba786f0f42bb83db", func := "relay/relaylaw10.DiskFails", spec := "diskFails", apart := false }
def DiskFailsSaid : Prop := diskFailsRow.holds Try.pinned (OpenSpec.ofChange diskFailsSpec)

/-- ITS FALSE NEIGHBOUR: 'it returns false'. Refute it at one input. -/
def diskFailsWrong : ChangeSpec := { name := "diskFails", fn := fun _ => fun
  | [d1, d2, d3] => { results := [.lit (.bool false)], args := [d1, d2, d3] }
  | _ => none }
def DiskFailsWrongFalsely : Prop := diskFailsRow.holds Try.pinned (OpenSpec.ofChange diskFailsWrong)

/-- 'relaylaw10.DiskActs': WHATEVER THE INPUT: true; the input reads as it did. -/
def diskActsSpec : ChangeSpec := { name := "diskActs", fn := fun _ => fun
  | [d1, d2] => { results := [.lit (.bool true)], args := [d1, d2] }
  | _ => none }
def diskActsRow : OpenClaim := { program := "ytdingfinclcbgaa", sum := "c7716334bd330ebd2c230aab6117de2f0f21766a503697c5ba786f0f42bb83db", func := "relay/relaylaw10.DiskActs", spec := "diskActs", apart := false }
def DiskActsSaid : Prop := diskActsRow.holds Try.pinned (OpenSpec.ofChange diskActsSpec)

/-- ITS FALSE NEIGHBOUR: 'it returns false'. Refute it at one input. -/
def diskActsWrong : ChangeSpec := { name := "diskActs", fn := fun _ => fun
  | [d1, d2] => { results := [.lit (.bool false)], args := [d1, d2] }
  | _ => none }
def DiskActsWrongFalsely : Prop := diskActsRow.holds Try.pinned (OpenSpec.ofChange diskActsWrong)

/-- 'relaylaw11.JournalNeeds': WHATEVER THE INPUT: true; the input reads as it did. -/
def journalNeedsSpec : ChangeSpec := { name := "journalNeeds", fn := fun _ => fun
  | [d] => { results := [.lit (.bool true)], args := [d] }
  | _ => none }
def journalNeedsRow : OpenClaim := { program := "ytdingfinclcbgaa", sum := "c7716334bd330ebd2c230aab6117de2f0f21766a503697c5ba786f0f42bb83db", func := "relay/relaylaw11.JournalNeeds", spec := "journalNeeds", unfollowed := true, recurses := true, apart := false }
def JournalNeedsSaid : Prop := journalNeedsRow.holds Try.pinned (OpenSpec.ofChange journalNeedsSpec)

/-- ITS FALSE NEIGHBOUR: 'it returns false'. Refute it at one input. -/
def journalNeedsWrong : ChangeSpec := { name := "journalNeeds", fn := fun _ => fun
  | [d] => { results := [.lit (.bool false)], args := [d] }
  | _ => none }
def JournalNeedsWrongFalsely : Prop := journalNeedsRow.holds Try.pinned (OpenSpec.ofChange journalNeedsWrong)

/-- 'relaylaw11.JournalLong': WHATEVER THE INPUT: true; the input reads as it did. -/
def journalLongSpec : ChangeSpec := { name := "journalLong", fn := fun _ => fun
  | [d1, d2] => { results := [.lit (.bool true)], args := [d1, d2] }
  | _ => none }
def journalLongRow : OpenClaim := { program := "ytdingfinclcbgaa", sum := "c7716334bd330ebd2c230aab6117de2f0f21766a503697c5ba786f0f42bb83db", func := "relay/relaylaw11.JournalLong", spec := "journalLong", unfollowed := true, recurses := true, apart := false }
def JournalLongSaid : Prop := journalLongRow.holds Try.pinned (OpenSpec.ofChange journalLongSpec)

/-- ITS FALSE NEIGHBOUR: 'it returns false'. Refute it at one input. -/
def journalLongWrong : ChangeSpec := { name := "journalLong", fn := fun _ => fun
  | [d1, d2] => { results := [.lit (.bool false)], args := [d1, d2] }
  | _ => none }
def JournalLongWrongFalsely : Prop := journalLongRow.holds Try.pinned (OpenSpec.ofChange journalLongWrong)

/-- 'relaylaw11.JournalEach': WHATEVER THE INPUT: true; the input reads as it did. -/
def journalEachSpec : ChangeSpec := { name := "journalEach", fn := fun _ => fun
  | [d1, d2, d3] => { results := [.lit (.bool true)], args := [d1, d2, d3] }
  | _ => none }
def journalEachRow : OpenClaim := { program := "ytdingfinclcbgaa", sum := "c7716334bd330ebd2c230aab6117de2f0f21766a503697c5ba786f0f42bb83db", func := "relay/relaylaw11.JournalEach", spec := "journalEach", unfollowed := true, recurses := true, apart := false }
def JournalEachSaid : Prop := journalEachRow.holds Try.pinned (OpenSpec.ofChange journalEachSpec)

/-- ITS FALSE NEIGHBOUR: 'it returns false'. Refute it at one input. -/
def journalEachWrong : ChangeSpec := { name := "journalEach", fn := fun _ => fun
  | [d1, d2, d3] => { results := [.lit (.bool false)], args := [d1, d2, d3] }
  | _ => none }
def JournalEachWrongFalsely : Prop := journalEachRow.holds Try.pinned (OpenSpec.ofChange journalEachWrong)

/-- 'relaylaw11.JournalActs': WHATEVER THE INPUT: true; the input reads as it did. -/
def journalActsSpec : ChangeSpec := { name := "journalActs", fn := fun _ => fun
  | [d1, d2] => { results := [.lit (.bool true)], args := [d1, d2] }
  | _ => none }
def journalActsRow : OpenClaim := { program := "ytdingfinclcbgaa", sum := "c7716334bd330ebd2c230aab6117de2f0f21766a503697c5ba786f0f42bb83db", func := "relay/relaylaw11.JournalActs", spec := "journalActs", unfollowed := true, recurses := true, apart := false }
def JournalActsSaid : Prop := journalActsRow.holds Try.pinned (OpenSpec.ofChange journalActsSpec)

/-- ITS FALSE NEIGHBOUR: 'it returns false'. Refute it at one input. -/
def journalActsWrong : ChangeSpec := { name := "journalActs", fn := fun _ => fun
  | [d1, d2] => { results := [.lit (.bool false)], args := [d1, d2] }
  | _ => none }
def JournalActsWrongFalsely : Prop := journalActsRow.holds Try.pinned (OpenSpec.ofChange journalActsWrong)

/- THE SECOND FORM. 'bulk': how many values and letters a reading holds, each counted each time it is reached (what is shared counts as often as it is met; a slice's spare places count too). A statement '..UptoSaid' is the law's where the arguments, and the package variables that the reading takes, are together of bulk at most 1048576: NARROWER than '..Said'. Prove '..Said' where nothing that the law and all that it calls make is longer than what came in: it says more and counts as full. Else prove '..UptoSaid'. A law counts once. -/
mutual
def uptoBulk {H : Type} : DataW H → Nat
  | .lit (.string bytes) => bytes.length + 1
  | .lit _ => 1
  | .nil => 1
  | .ptr d => uptoBulk d + 1
  | .slice elems spare => uptoBulkAll elems + uptoBulkAll spare + 1
  | .agg parts => uptoBulkAll parts + 1
  | .iface _ d => uptoBulk d + 1
  | .map entries => uptoBulkEntries entries + 1
  | .held _ => 1
def uptoBulkAll {H : Type} : List (DataW H) → Nat
  | [] => 0
  | d :: r => uptoBulk d + uptoBulkAll r
def uptoBulkEntries {H : Type} : List (Lit × DataW H) → Nat
  | [] => 0
  | x :: r => uptoBulkEntry x + uptoBulkEntries r
def uptoBulkEntry {H : Type} : Lit × DataW H → Nat
  | (.string bytes, d) => bytes.length + uptoBulk d + 1
  | (_, d) => uptoBulk d + 1
 end
def uptoSmall : (H : Type) → List (DataW H) → Bool := fun _ ds => decide (uptoBulkAll ds ≤ 1048576)
def OpenSpec.upto (s : _root_.Go.ChangeSpec) : _root_.Go.OpenSpec := { _root_.Go.OpenSpec.ofChange s with cond := some uptoSmall }

/-- 'relaylaw10.DiskFails', WHERE WHAT IT READS IS OF BULK AT MOST 1048576: true; the input reads as it did. -/
def diskFailsUptoRow : OpenClaim := { program := "ytdingfinclcbgaa", sum := "c7716334bd330ebd2c230aab6117de2f0f21766a503697c5ba786f0f42bb83db", func := "relay/relaylaw10.DiskFails", spec := "diskFails", apart := false, narrowed := true }
def DiskFailsUptoSaid : Prop := diskFailsUptoRow.holds Try.pinned (OpenSpec.upto diskFailsSpec)

/-- 'relaylaw10.DiskActs', WHERE WHAT IT READS IS OF BULK AT MOST 1048576: true; the input reads as it did. -/
def diskActsUptoRow : OpenClaim := { program := "ytdingfinclcbgaa", sum := "c7716334bd330ebd2c230aab6117de2f0f21766a503697c5ba786f0f42bb83db", func := "relay/relaylaw10.DiskActs", spec := "diskActs", apart := false, narrowed := true }
def DiskActsUptoSaid : Prop := diskActsUptoRow.holds Try.pinned (OpenSpec.upto diskActsSpec)

/-- 'relaylaw11.JournalNeeds', WHERE WHAT IT READS IS OF BULK AT MOST 1048576: true; the input reads as it did. -/
def journalNeedsUptoRow : OpenClaim := { program := "ytdingfinclcbgaa", sum := "c7716334bd330ebd2c230aab6117de2f0f21766a503697c5ba786f0f42bb83db", func := "relay/relaylaw11.JournalNeeds", spec := "journalNeeds", unfollowed := true, recurses := true, apart := false, narrowed := true }
def JournalNeedsUptoSaid : Prop := journalNeedsUptoRow.holds Try.pinned (OpenSpec.upto journalNeedsSpec)

/-- 'relaylaw11.JournalLong', WHERE WHAT IT READS IS OF BULK AT MOST 1048576: true; the input reads as it did. -/
def journalLongUptoRow : OpenClaim := { program := "ytdingfinclcbgaa", sum := "c7716334bd330ebd2c230aab6117de2f0f21766a503697c5ba786f0f42bb83db", func := "relay/relaylaw11.JournalLong", spec := "journalLong", unfollowed := true, recurses := true, apart := false, narrowed := true }
def JournalLongUptoSaid : Prop := journalLongUptoRow.holds Try.pinned (OpenSpec.upto journalLongSpec)

/-- 'relaylaw11.JournalEach', WHERE WHAT IT READS IS OF BULK AT MOST 1048576: true; the input reads as it did. -/
def journalEachUptoRow : OpenClaim := { program := "ytdingfinclcbgaa", sum := "c7716334bd330ebd2c230aab6117de2f0f21766a503697c5ba786f0f42bb83db", func := "relay/relaylaw11.JournalEach", spec := "journalEach", unfollowed := true, recurses := true, apart := false, narrowed := true }
def JournalEachUptoSaid : Prop := journalEachUptoRow.holds Try.pinned (OpenSpec.upto journalEachSpec)

/-- 'relaylaw11.JournalActs', WHERE WHAT IT READS IS OF BULK AT MOST 1048576: true; the input reads as it did. -/
def journalActsUptoRow : OpenClaim := { program := "ytdingfinclcbgaa", sum := "c7716334bd330ebd2c230aab6117de2f0f21766a503697c5ba786f0f42bb83db", func := "relay/relaylaw11.JournalActs", spec := "journalActs", unfollowed := true, recurses := true, apart := false, narrowed := true }
def JournalActsUptoSaid : Prop := journalActsUptoRow.holds Try.pinned (OpenSpec.upto journalActsSpec)

end Rows
end Go.Proofs.Ytdingfinclcbgaa
