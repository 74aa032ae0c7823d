import Derived.Test.YtcjfkmhijfcciaaDoorXP2
import Derived.Test.YtcjfkmhijfcciaaDoorG1
namespace Go.Proofs.YtcjfkmhijfcciaaDoor
set_option maxRecDepth 20000
set_option linter.unusedVariables false
set_option linter.unusedSimpArgs false
open Go.SE Go.RowKit
theorem c_TagN {key l : List (BitVec 8)} {A : Option Addr} {n ca bq q : Nat} (hn : l.length = n) (hkey : key.length = 32) (hA : 0 < n → A = some ⟨bq, q, none⟩) (hca : n ≤ ca) (hl : n ≤ 1000000) : Con Tryd.prog 49 [aggK key, .slice A n ca] [pRow bq q l] (fun v rs => v = aggK (tagS key l) ∧ rs = []) := by
 subst hn
 exact c_Tag key l A ca bq q hkey hA hca hl
theorem tagS_len (key l : List (BitVec 8)) : (tagS key l).length = 16 := by simp [tagS]



end Go.Proofs.YtcjfkmhijfcciaaDoor

