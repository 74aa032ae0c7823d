/- Sectors, one behind the other: plain. -/
import Derived.Test.YtdingfinclcbgaaA
namespace Go.Proofs.Ytdingfinclcbgaa
open Go.SE Go.RowKit
set_option linter.unusedSimpArgs false

theorem splice_get {α : Type} (S l : List α) (p i : Nat) (h : p + l.length ≤ S.length) : (splice S p l)[i]? = if p ≤ i ∧ i < p + l.length then l[i - p]? else S[i]? := by
  unfold splice
  rw [List.append_assoc, List.getElem?_append, List.length_take, Nat.min_eq_left (by omega)]
  by_cases h1 : i < p
  · rw [if_pos h1, if_neg (by omega), List.getElem?_take, if_pos h1]
  · rw [if_neg h1, List.getElem?_append]
    by_cases h2 : i - p < l.length
    · rw [if_pos h2, if_pos (by omega)]
    · rw [if_neg h2, if_neg (by omega), List.getElem?_drop]
      congr 1
      omega
theorem sector_get (d : DM) (s j : Nat) : (d.sector s)[j]? = if j < 64 then d.S[s * 64 + j]? else none := by
  unfold DM.sector
  rw [List.getElem?_take]
  split
  · rw [List.getElem?_drop]
  · rfl
theorem sector_same {d d' : DM} {s : Nat} {l : List (BitVec 8)} (hS : d'.S = splice d.S (s * 64) l) (hl : l.length ≤ 64) (h : s * 64 + 64 ≤ d.S.length) : d'.sector s = l ++ (d.sector s).drop l.length := by
  apply List.ext_getElem?
  intro j
  rw [sector_get, hS, splice_get _ _ _ _ (by omega), List.getElem?_append, List.getElem?_drop, sector_get]
  by_cases h1 : j < l.length
  · rw [if_pos (by omega), if_pos (by omega), if_pos h1]
    congr 1
    omega
  · rw [if_neg h1]
    by_cases h2 : j < 64
    · rw [if_pos h2, if_neg (by omega), if_pos (by omega)]
      congr 1
      omega
    · rw [if_neg h2, if_neg (by omega)]
theorem sector_other {d d' : DM} {s s' : Nat} {l : List (BitVec 8)} (hS : d'.S = splice d.S (s * 64) l) (hl : l.length ≤ 64) (h : s * 64 + 64 ≤ d.S.length) (hne : s' ≠ s) : d'.sector s' = d.sector s' := by
  apply List.ext_getElem?
  intro j
  rw [sector_get, sector_get, hS]
  split
  · rw [splice_get _ _ _ _ (by omega), if_neg]
    rintro ⟨h1, h2⟩
    rcases Nat.lt_or_ge s s' with h3 | h3
    · have : (s + 1) * 64 ≤ s' * 64 := Nat.mul_le_mul_right _ h3
      omega
    · have : (s' + 1) * 64 ≤ s * 64 := Nat.mul_le_mul_right _ (by omega)
      omega
  · rfl
def zeros (n : Nat) : List (BitVec 8) := List.replicate n 0
def fullB : List (BitVec 8) := (List.range 64).map fun (i : Nat) => BitVec.ofInt 8 ((i : Int) + 1)
theorem fullB_length : fullB.length = 64 := by simp [fullB]
/-- The disk behind i writes. -/
def DD (K T : Nat) : Nat → DM
  | 0 => (DM.new 30).fail K T
  | i + 1 => ((DD K T i).write i fullB).1
/-- What stands in a sector behind i writes. -/
def want (K T i s : Nat) : List (BitVec 8) := if s < min i K then fullB else if s = K ∧ K < i then fullB.take T ++ zeros (64 - T) else zeros 64
structure Inv (K T i : Nat) (d : DM) : Prop where
  n : d.n = 30
  len : d.S.length = 30 * 64
  torn : d.torn = T
  on : i ≤ K → d.off = false ∧ d.till = (K : Int) - i ∧ d.wr = i
  off : K < i → d.off = true ∧ d.till = -1 ∧ d.wr = (K : Int) + 1
  sec : ∀ s, s < 30 → d.sector s = want K T i s
theorem Inv.ok {K T i : Nat} {d : DM} (h : Inv K T i d) (hK : K < 20) (hT : T ≤ 64) (hi : i ≤ 25) : d.Ok := by
  obtain ⟨h1, h2, h3, h4, h5, _⟩ := h
  refine ⟨by rw [h1]; exact h2, by omega, ?_, ?_, ?_, ?_, by omega, by omega⟩ <;>
    (rcases Nat.lt_or_ge K i with h | h
     · obtain ⟨_, a, b⟩ := h5 h; omega
     · obtain ⟨_, a, b⟩ := h4 h; omega)
theorem inv0 (K T : Nat) (hT : T ≤ 64) : Inv K T 0 (DD K T 0) := by
  refine ⟨rfl, List.length_replicate, ?_, fun _ => ⟨rfl, by show max (K : Int) (-1) = _; omega, rfl⟩, fun h => absurd h (by omega), fun s hs => ?_⟩
  · show (min (max (T : Int) 0) 64).toNat = T
    omega
  · unfold want
    rw [if_neg (by omega), if_neg (by omega)]
    show ((List.replicate (30 * 64) (0 : BitVec 8)).drop (s * 64)).take 64 = _
    rw [List.drop_replicate, List.take_replicate, show min 64 (30 * 64 - s * 64) = 64 by omega]
    rfl
theorem zeros_drop (n m : Nat) : (zeros n).drop m = zeros (n - m) := by simp [zeros]
theorem inv_step {K T i : Nat} {d : DM} (h : Inv K T i d) (hK : K < 20) (hT : T ≤ 64) (hi : i < 25) :
    ∃ e : Int, d.write i fullB = ((d.write i fullB).1, e) ∧ (i < K → e = 0) ∧ (¬ i < K → e = 6) ∧ Inv K T (i + 1) (d.write i fullB).1 := by
  obtain ⟨h1, h2, h3, h4, h5, h6⟩ := h
  rcases Nat.lt_or_ge K i with hlt | hge
  · obtain ⟨a, b, c⟩ := h5 hlt
    have hw : d.write i fullB = (d, 6) := by simp [DM.write, mayE, a]
    refine ⟨6, by rw [hw], fun h => absurd h (by omega), fun _ => rfl, ?_⟩
    rw [hw]
    refine ⟨h1, h2, h3, fun h => absurd h (by omega), fun _ => ⟨a, b, c⟩, fun s hs => ?_⟩
    rw [h6 s hs]
    unfold want
    rw [show min i K = min (i + 1) K by omega]
    by_cases hs1 : s < min (i + 1) K
    · rw [if_pos hs1, if_pos hs1]
    · rw [if_neg hs1, if_neg hs1]
      by_cases hs2 : s = K
      · rw [if_pos ⟨hs2, hlt⟩, if_pos ⟨hs2, by omega⟩]
      · rw [if_neg (fun h => hs2 h.1), if_neg (fun h => hs2 h.1)]
  · obtain ⟨a, b, c⟩ := h4 hge
    have hm : mayE d.off d.n (i : Int) = 0 := by simp [mayE, a, h1]; omega
    rcases Nat.lt_or_eq_of_le hge with hlt | heq
    · have hw : d.write i fullB = ({ d with S := splice d.S (i * 64) fullB, till := max (d.till - 1) (-1), wr := d.wr + 1 }, 0) := by
        have : d.till ≠ 0 := by omega
        simp [DM.write, hm, fullB_length, this]
      refine ⟨0, by rw [hw], fun _ => rfl, fun h => absurd hlt h, ?_⟩
      rw [hw]
      refine ⟨h1, ?_, h3, fun _ => ⟨a, ?_, ?_⟩, fun h => absurd h (by omega), fun s hs => ?_⟩
      · show (splice _ _ _).length = _
        rw [splice_length _ _ _ (by rw [fullB_length]; omega), h2]
      · show max (d.till - 1) (-1) = _
        omega
      · show d.wr + 1 = _
        omega
      · by_cases hsi : s = i
        · subst hsi
          rw [sector_same (d := d) (l := fullB) rfl (by rw [fullB_length]; decide) (by omega), fullB_length, h6 s hs]
          unfold want
          rw [if_neg (by omega), if_neg (by omega), if_pos (by omega), zeros_drop]
          simp [zeros]
        · rw [sector_other (d := d) (l := fullB) rfl (by rw [fullB_length]; decide) (by omega) hsi, h6 s hs]
          unfold want
          by_cases hs1 : s < min i K
          · rw [if_pos hs1, if_pos (by omega)]
          · rw [if_neg hs1, if_neg (by omega), if_neg (by omega), if_neg (by omega)]
    · subst heq
      have hw : d.write i fullB = ({ d with S := splice d.S (i * 64) (fullB.take d.torn), off := true, till := -1, wr := d.wr + 1 }, 6) := by
        have : d.till = 0 := by omega
        simp [DM.write, hm, fullB_length, this]
      refine ⟨6, by rw [hw], fun h => absurd h (by omega), fun _ => rfl, ?_⟩
      rw [hw]
      have hlt : (fullB.take d.torn).length = T := by rw [List.length_take, fullB_length, h3]; omega
      refine ⟨h1, ?_, h3, fun h => absurd h (by omega), fun _ => ⟨rfl, rfl, ?_⟩, fun s hs => ?_⟩
      · show (splice _ _ _).length = _
        rw [splice_length _ _ _ (by omega), h2]
      · show d.wr + 1 = _
        omega
      · by_cases hsi : s = i
        · subst hsi
          rw [sector_same (d := d) (l := fullB.take d.torn) rfl (by omega) (by omega), hlt, h6 s hs]
          unfold want
          rw [if_neg (by omega), if_neg (by omega), if_neg (by omega), if_pos (by omega), zeros_drop, h3]
        · rw [sector_other (d := d) (l := fullB.take d.torn) rfl (by omega) (by omega) hsi, h6 s hs]
          unfold want
          by_cases hs1 : s < min i i
          · rw [if_pos hs1, if_pos (by omega)]
          · rw [if_neg hs1, if_neg (by omega), if_neg (by omega), if_neg (by omega)]
theorem inv_all {K T : Nat} (hK : K < 20) (hT : T ≤ 64) : ∀ i, i ≤ 25 → Inv K T i (DD K T i)
  | 0, _ => inv0 K T hT
  | i + 1, h => by
    obtain ⟨e, _, _, _, h4⟩ := inv_step (inv_all hK hT i (by omega)) hK hT (by omega)
    exact h4
theorem dd_write {K T i : Nat} (hK : K < 20) (hT : T ≤ 64) (hi : i < 25) : ∃ e : Int, (DD K T i).write i fullB = (DD K T (i + 1), e) ∧ (i < K → e = 0) ∧ (¬ i < K → e = 6) := by
  obtain ⟨e, h1, h2, h3, _⟩ := inv_step (inv_all hK hT i (by omega)) hK hT hi
  exact ⟨e, h1, h2, h3⟩
/-- Writes that are refused. -/
theorem dd_refused {K T i : Nat} (hK : K < 20) (hT : T ≤ 64) (hi : i ≤ 25) (j : Int) (l : List (BitVec 8)) (h : 30 ≤ j ∨ l.length ≠ 64) : ∃ e : Int, (DD K T i).write j l = (DD K T i, e) ∧ e ≠ 0 := by
  have hI := inv_all hK hT i hi
  have hn := hI.n
  by_cases h1 : mayE (DD K T i).off (DD K T i).n j ≠ 0
  · exact ⟨_, by unfold DM.write; rw [if_pos h1], h1⟩
  · refine ⟨1, ?_, by decide⟩
    unfold DM.write
    rw [if_neg h1]
    rcases h with h | h
    · exfalso
      apply h1
      unfold mayE
      split
      · decide
      · rw [if_pos (by omega)]; decide
    · rw [if_pos h]
theorem read_inv {K T n : Nat} {d : DM} (hI : Inv K T n d) {s : Nat} (hs : s < 25) : d.up.read s = (want K T n s, 0) := by
  have h1 : mayE d.up.off d.up.n (s : Int) = 0 := by
    show mayE false d.n _ = 0
    simp [mayE, hI.n]; omega
  unfold DM.read
  rw [if_neg (by simpa using h1), Int.toNat_natCast]
  exact congrArg (·, 0) (hI.sec s (by omega))
theorem dd_read {K T : Nat} (hK : K < 20) (hT : T ≤ 64) {s : Nat} (hs : s < 25) : (DD K T 25).up.read s = (want K T 25 s, 0) := read_inv (inv_all hK hT 25 (Nat.le_refl _)) hs
theorem want_length {K T i s : Nat} (hT : T ≤ 64) : (want K T i s).length = 64 := by
  unfold want
  split
  · exact fullB_length
  · split
    · simp [fullB_length, zeros]; omega
    · simp [zeros]
theorem umod_nat (x m : BitVec 64) (h0 : 0 < m.toNat) (h1 : m.toNat ≤ 4611686018427387904) : ∃ k : Nat, k < m.toNat ∧ (x % m).toInt = (k : Int) := by
  refine ⟨(x % m).toNat, ?_, ?_⟩
  · rw [BitVec.toNat_umod]; exact Nat.mod_lt _ h0
  · have h2 : (x % m).toNat < m.toNat := by rw [BitVec.toNat_umod]; exact Nat.mod_lt _ h0
    rw [BitVec.toInt_eq_toNat_cond, if_pos (by omega)]
end Go.Proofs.Ytdingfinclcbgaa
