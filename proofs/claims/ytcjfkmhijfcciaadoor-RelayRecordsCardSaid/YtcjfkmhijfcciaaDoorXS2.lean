import Derived.Test.YtcjfkmhijfcciaaDoorXS1
import Derived.Test.YtcjfkmhijfcciaaDoorG1
namespace Go.Proofs.YtcjfkmhijfcciaaDoor
set_option maxRecDepth 20000
set_option linter.unusedVariables false
set_option linter.unusedSimpArgs false
open Go.SE Go.RowKit
theorem c_MacN {A A2 : Option Addr} {key b : List (BitVec 8)} {n nb ca cb bq q br r : Nat} (hn : key.length = n) (hnb : b.length = nb) (hA : 0 < n → A = some ⟨bq, q, none⟩) (hB : 0 < nb → A2 = some ⟨br, r, none⟩) (hl : n ≤ 1000000) (hlb : nb ≤ 900000) :
  Con Tryd.prog 43 [.slice A n ca, .slice A2 nb cb] [pRow bq q key, pRow br r b] (fun v rs => v = aggK (macS key b) ∧ rs = []) := by
 subst hn hnb
 exact c_Mac A A2 key b ca cb bq q br r hA hB hl hlb
theorem c_SameN {a b : List (BitVec 8)} {n m : Nat} {A A2 : Option Addr} {ca cb bq q br r : Nat} (hn : a.length = n) (hm : b.length = m) (hA : 0 < n → A = some ⟨bq, q, none⟩) (hB : 0 < m → A2 = some ⟨br, r, none⟩) (hl : n ≤ 281474976710656) : Con Tryd.prog 35 [.slice A n ca, .slice A2 m cb] [pRow bq q a, pRow br r b] (fun v rs => v = .bool (decide (a = b)) ∧ rs = []) := by
 subst hn hm
 exact c_Same A A2 a b ca cb bq q br r hA hB hl




end Go.Proofs.YtcjfkmhijfcciaaDoor

