import Derived.Test.YtcjfkmhijfcciaaXS1
import Derived.Test.YtcjfkmhijfcciaaSE15
import Derived.Test.YtcjfkmhijfcciaaSE33
namespace Go.Proofs.Ytcjfkmhijfcciaa
set_option maxRecDepth 20000
set_option linter.unusedVariables false
set_option linter.unusedSimpArgs false
open Go.SE Go.RowKit
theorem c_SameN {a b : List (BitVec 8)} {n m : Nat} {A A2 : Option Addr} {ca cb bq q br r : Nat} (hn : a.length = n) (hm : b.length = m) (hA : 0 < n → A = some ⟨bq, q, none⟩) (hB : 0 < m → A2 = some ⟨br, r, none⟩) (hl : n ≤ 281474976710656) : Con Try.prog 62 [.slice A n ca, .slice A2 m cb] [pRow bq q a, pRow br r b] (fun v rs => v = .bool (decide (a = b)) ∧ rs = []) := by
 subst hn hm
 exact c_Same A A2 a b ca cb bq q br r hA hB hl




end Go.Proofs.Ytcjfkmhijfcciaa

