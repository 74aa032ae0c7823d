import Derived.Test.YtdingfinclcbgaaXS1
import Derived.Test.YtdingfinclcbgaaSE15
namespace Go.Proofs.Ytdingfinclcbgaa
set_option maxRecDepth 20000
set_option linter.unusedVariables false
set_option linter.unusedSimpArgs false
open Go.SE Go.RowKit
theorem umod_nat (x m : BitVec 64) (h0 : 0 < m.toNat) (h1 : m.toNat ≤ 4611686018427387904) : ∃ k : Nat, k < m.toNat ∧ (x % m).toInt = (k : Int) := by
  refine ⟨(x % m).toNat, ?_, ?_⟩
  · rw [BitVec.toNat_umod]; exact Nat.mod_lt _ h0
  · have h2 : (x % m).toNat < m.toNat := by rw [BitVec.toNat_umod]; exact Nat.mod_lt _ h0
    rw [BitVec.toInt_eq_toNat_cond, if_pos (by omega)]
theorem len_beq {α : Type} (l : List α) : decide (l.length = 0) = ((l.length : Int) == 0) := by
  cases l with
  | nil => rfl
  | cons a l =>
    rw [decide_eq_false (by simp)]
    symm
    rw [beq_eq_false_iff_ne]
    simp only [List.length_cons]
    omega
theorem same_turn {l : List (BitVec 8)} {k : Nat} (h : k < l.length) (t : BitVec 8) : decide (l = l.set k (l.getD k 0#8 ^^^ t)) = decide (t = 0#8) := by
  have e : l.getD k 0#8 = l[k] := by simp [List.getD_eq_getElem?_getD, h]
  by_cases h0 : t = 0#8
  · subst h0
    rw [e]
    simp
  · rw [decide_eq_false h0, decide_eq_false]
    intro hh
    have h1 := congrArg (fun z : List (BitVec 8) => z[k]?) hh
    simp only [List.getElem?_eq_getElem h] at h1
    rw [List.getElem?_set_self h] at h1
    have h2 : l[k] = l[k] ^^^ t := by rw [e] at h1; exact Option.some.inj h1
    have h3 : l[k] ^^^ l[k] = l[k] ^^^ (l[k] ^^^ t) := congrArg (l[k] ^^^ ·) h2
    rw [← BitVec.xor_assoc, BitVec.xor_self, BitVec.zero_xor] at h3
    exact h0 h3.symm



end Go.Proofs.Ytdingfinclcbgaa
