import Derived.Test.YtdingfinclcbgaaJL1
import Derived.Test.YtdingfinclcbgaaJNB
namespace Go.Proofs.Ytdingfinclcbgaa
set_option maxRecDepth 20000
set_option linter.unusedVariables false
set_option linter.unusedSimpArgs false
open Go.SE Go.RowKit
/-! the journal on its disk: one more entry, and these alone -/
theorem pk_congr {S S' : List (BitVec 8)} (h0 : secs S' 0 = secs S 0) (h1 : secs S' 1 = secs S 1) : pkS S' 2 = pkS S 2 := by
 show pk1 (pk1 _ (secs S' 0)) (secs S' 1) = pk1 (pk1 _ (secs S 0)) (secs S 1)
 rw [h0, h1]
 rfl
/-- The journal that a disk holds. -/
structure JInv (S : List (BitVec 8)) (n ar : Nat) (gen : BitVec 64) (L : List (List (BitVec 8))) : Prop where
 len : S.length = n * 64
 st : StoredL S n ar gen L
 pk : pkS S 2 = (gen, (ar : Int), true)
 sl : secs S (gen.toNat % 2) = slotB gen ar
theorem getD_app {α : Type} {l : List α} {x d : α} {i : Nat} (h : i < l.length) : (l ++ [x]).getD i d = l.getD i d := by
 rw [List.getD_eq_getElem?_getD, List.getD_eq_getElem?_getD, List.getElem?_append_left h]
theorem getD_last {α : Type} {l : List α} {x d : α} : (l ++ [x]).getD l.length d = x := by
 rw [List.getD_eq_getElem?_getD, List.getElem?_append_right (Nat.le_refl _), Nat.sub_self]
 rfl
theorem JInv.push {S : List (BitVec 8)} {n ar : Nat} {gen : BitVec 64} {L : List (List (BitVec 8))} {e : List (BitVec 8)} (h : JInv S n ar gen L) (h4 : 4 ≤ n) (har : ar ≤ 1) (hu : L.length < (n - 2) / 2) (he1 : 1 ≤ e.length) (he2 : e.length ≤ 14) :
  JInv (splice S ((fstS n ar + L.length) * 64) (secB gen L.length e)) n ar gen (L ++ [e]) := by
 have hs : (secB gen L.length e).length = 64 := secB_len (by omega)
 have hf := fst_le n ar har
 have hf3 := hf.2.2 h4
 have hk : fstS n ar + L.length < n := by omega
 obtain ⟨g1, g2, g3⟩ := h.st
 have h2 : ∀ j, j < n → j ≠ fstS n ar + L.length → secs (splice S ((fstS n ar + L.length) * 64) (secB gen L.length e)) j = secs S j := fun j hj hne => secs_other h.len hs hk hj hne
 have hl : (L ++ [e]).length = L.length + 1 := by simp
 refine ⟨splice_len h.len (by rw [hs]; omega), ⟨by rw [hl]; omega, fun i hi => ?_, fun i h1 hi => ?_⟩, (pk_congr (h2 0 (by omega) (by omega)) (h2 1 (by omega) (by omega))).trans h.pk, (h2 _ (by omega) (by omega)).trans h.sl⟩
 ·
  rw [hl] at hi
  rcases Nat.lt_or_ge i L.length with hlt | hge
  ·
   rw [getD_app hlt, h2 _ (by omega) (by omega)]
   exact g2 i hlt
  ·
   obtain rfl : i = L.length := by omega
   rw [getD_last]
   exact ⟨secs_same h.len hs hk, he1, he2⟩
 ·
  rw [hl] at h1
  rw [h2 _ (by omega) (by omega)]
  exact g3 i (by omega) hi
/-- A compaction under way: k entries of L are there; the slots are S0's. -/
structure PutA (S0 S : List (BitVec 8)) (n ar : Nat) (gen : BitVec 64) (L : List (List (BitVec 8))) : Prop where
 len : S.length = n * 64
 at_ : ∀ i, i < L.length → secs S (fstS n ar + i) = secB gen i (L.getD i [])
 oth : ∀ j, j < 2 → secs S j = secs S0 j
theorem PutA.nil {S : List (BitVec 8)} {n ar : Nat} {gen : BitVec 64} (h : S.length = n * 64) : PutA S S n ar gen [] := ⟨h, fun _ hi => absurd hi (Nat.not_lt_zero _), fun _ _ => rfl⟩
theorem PutA.push {S0 S : List (BitVec 8)} {n ar : Nat} {gen : BitVec 64} {L : List (List (BitVec 8))} {e : List (BitVec 8)} {u : Nat} (h : PutA S0 S n ar gen L) (hu : L.length = u) (h4 : 4 ≤ n) (har : ar ≤ 1) (hr : u < (n - 2) / 2) (he2 : e.length ≤ 14) :
  PutA S0 (splice S ((fstS n ar + u) * 64) (secB gen u e)) n ar gen (L ++ [e]) := by
 subst hu
 have hs : (secB gen L.length e).length = 64 := secB_len (by omega)
 have hf := fst_le n ar har
 have hf3 := hf.2.2 h4
 have hk : fstS n ar + L.length < n := by omega
 have h2 : ∀ j, j < n → j ≠ fstS n ar + L.length → secs (splice S ((fstS n ar + L.length) * 64) (secB gen L.length e)) j = secs S j := fun j hj hne => secs_other h.len hs hk hj hne
 refine ⟨splice_len h.len (by rw [hs]; omega), fun i hi => ?_, fun j hj => (h2 j (by omega) (by omega)).trans (h.oth j hj)⟩
 rw [List.length_append, List.length_singleton] at hi
 rcases Nat.lt_or_ge i L.length with hlt | hge
 ·
  rw [getD_app hlt, h2 _ (by omega) (by omega)]
  exact h.at_ i hlt
 ·
  obtain rfl : i = L.length := by omega
  rw [getD_last]
  exact secs_same h.len hs hk
structure ZerA (S0 S : List (BitVec 8)) (n ar : Nat) (gen : BitVec 64) (L : List (List (BitVec 8))) (k : Nat) : Prop where
 put : PutA S0 S n ar gen L
 le : L.length ≤ k
 zer : ∀ i, L.length ≤ i → i < k → secs S (fstS n ar + i) = List.replicate 64 0#8
theorem PutA.zer {S0 S : List (BitVec 8)} {n ar : Nat} {gen : BitVec 64} {L : List (List (BitVec 8))} {k : Nat} (h : PutA S0 S n ar gen L) (hk : L.length = k) : ZerA S0 S n ar gen L k := ⟨h, by omega, fun i h1 h2 => absurd h1 (by omega)⟩
theorem ZerA.step {S0 S : List (BitVec 8)} {n ar : Nat} {gen : BitVec 64} {L : List (List (BitVec 8))} {k : Nat} (h : ZerA S0 S n ar gen L k) (h4 : 4 ≤ n) (har : ar ≤ 1) (hr : k < (n - 2) / 2) : ZerA S0 (splice S ((fstS n ar + k) * 64) (List.replicate 64 0#8)) n ar gen L (k + 1) := by
 have hs : (List.replicate 64 0#8).length = 64 := by simp
 have hf := fst_le n ar har
 have hf3 := hf.2.2 h4
 have hk : fstS n ar + k < n := by omega
 have hle := h.le
 have h2 : ∀ j, j < n → j ≠ fstS n ar + k → secs (splice S ((fstS n ar + k) * 64) (List.replicate 64 0#8)) j = secs S j := fun j hj hne => secs_other h.put.len hs hk hj hne
 refine ⟨⟨splice_len h.put.len (by rw [hs]; omega), fun i hi => (h2 _ (by omega) (by omega)).trans (h.put.at_ i hi), fun j hj => (h2 j (by omega) (by omega)).trans (h.put.oth j hj)⟩, by omega, fun i h1 hi => ?_⟩
 rcases Nat.lt_or_ge i k with hlt | hge
 · exact (h2 _ (by omega) (by omega)).trans (h.zer i h1 hlt)
 ·
  obtain rfl : i = k := by omega
  exact secs_same h.put.len hs hk
theorem gen_succ {gen : BitVec 64} (h : gen.toNat < 2 ^ 63) : (gen + 1#64).toNat = gen.toNat + 1 := by
 rw [BitVec.toNat_add, BitVec.toNat_ofNat]; omega
theorem ZerA.done {S0 S : List (BitVec 8)} {n ar : Nat} {gen : BitVec 64} {L : List (List (BitVec 8))} (h : ZerA S0 S n (1 - ar) (gen + 1#64) L ((n - 2) / 2)) (h4 : 4 ≤ n) (har : ar ≤ 1) (hg : gen.toNat < 2 ^ 63) (hL : ∀ i, i < L.length → 1 ≤ (L.getD i []).length ∧ (L.getD i []).length ≤ 14) (hs : secs S0 (gen.toNat % 2) = slotB gen ar) :
  JInv (splice S (((gen + 1#64).toNat % 2) * 64) (slotB (gen + 1#64) ((1 - ar : Nat) : Int))) n (1 - ar) (gen + 1#64) L := by
 have hsl : (slotB (gen + 1#64) ((1 - ar : Nat) : Int)).length = 64 := slotB_len _ _
 have hf := fst_le n (1 - ar) (by omega)
 have hf3 := hf.2.2 h4
 have hgs := gen_succ hg
 have hk : (gen + 1#64).toNat % 2 < n := by omega
 have hle := h.le
 have h2 : ∀ j, j < n → j ≠ (gen + 1#64).toNat % 2 → secs (splice S (((gen + 1#64).toNat % 2) * 64) (slotB (gen + 1#64) ((1 - ar : Nat) : Int))) j = secs S j := fun j hj hne => secs_other h.put.len hsl hk hj hne
 have hnew := secs_same h.put.len hsl hk
 have hold : secs (splice S (((gen + 1#64).toNat % 2) * 64) (slotB (gen + 1#64) ((1 - ar : Nat) : Int))) (gen.toNat % 2) = slotB gen ar := by
  rw [h2 _ (by omega) (by omega), h.put.oth _ (by omega), hs]
 obtain ⟨a1, a2, a3⟩ := told_slot gen har
 obtain ⟨b1, b2, b3⟩ := told_slot (gen + 1#64) (ar := 1 - ar) (by omega)
 refine ⟨splice_len h.put.len (by rw [hsl]; omega), ⟨hle, fun i hi => ⟨(h2 _ (by omega) (by omega)).trans (h.put.at_ i hi), hL i hi⟩, fun i h1 hi => (h2 _ (by omega) (by omega)).trans (h.zer i h1 hi)⟩, ?_, hnew⟩
 have hY : ((gen + 1#64, ((1 - ar : Nat) : Int), true) : BitVec 64 × Int × Bool) = (tdG (slotB (gen + 1#64) ((1 - ar : Nat) : Int)), tdA (slotB (gen + 1#64) ((1 - ar : Nat) : Int)), true) := by rw [b1, b2]
 show pk1 (pk1 (0#64, 0, false) (secs _ 0)) (secs _ 1) = _
 rcases Nat.mod_two_eq_zero_or_one gen.toNat with e | e
 ·
  rw [e] at hold
  rw [show (gen + 1#64).toNat % 2 = 1 by omega] at hnew hold ⊢
  rw [hold, hnew, pk_f a3 rfl, pk_y b3 (by show (tdG (slotB gen ar)).toNat < _; rw [a1, b1]; omega)]
  exact hY.symm
 ·
  rw [e] at hold
  rw [show (gen + 1#64).toNat % 2 = 0 by omega] at hnew hold ⊢
  rw [hold, hnew, pk_f b3 rfl, pk_n a3 rfl (by show ¬ (tdG (slotB (gen + 1#64) ((1 - ar : Nat) : Int))).toNat < (tdG (slotB gen ar)).toNat; rw [a1, b1]; omega)]
  exact hY.symm
/-- A new journal. -/
theorem JInv.fresh {S : List (BitVec 8)} {n : Nat} (h4 : 4 ≤ n) (hz : S = List.replicate (n * 64) 0#8) : JInv (splice (splice S (0 * 64) (List.replicate 64 0#8)) (1 * 64) (slotB 1#64 0)) n 0 1#64 [] := by
 have hS : S.length = n * 64 := by rw [hz, List.length_replicate]
 have hz64 : (List.replicate 64 0#8).length = 64 := by simp
 have h0 : (splice S (0 * 64) (List.replicate 64 0#8)).length = n * 64 := splice_len hS (by rw [hz64]; omega)
 have hs : ∀ j, j < n → j ≠ 1 → secs (splice (splice S (0 * 64) (List.replicate 64 0#8)) (1 * 64) (slotB 1#64 0)) j = List.replicate 64 0#8 := fun j hj h1 => by
  rw [secs_other h0 (slotB_len _ _) (by omega) hj h1]
  by_cases h2 : j = 0
  ·
   subst h2
   exact secs_same hS hz64 (by omega)
  ·
   rw [secs_other hS hz64 (by omega) hj h2, hz]
   exact secs_rep hj
 have hs1 := secs_same h0 (slotB_len 1#64 0) (show 1 < n by omega)
 obtain ⟨g1, g2, g3⟩ := told_slot 1#64 (ar := 0) (by decide)
 have hf := fst_le n 0 (by omega)
 have hf3 := hf.2.2 h4
 refine ⟨splice_len h0 (by rw [slotB_len]; omega), ⟨Nat.zero_le _, fun _ hi => absurd hi (Nat.not_lt_zero _), fun i _ hi => hs _ (by omega) (by omega)⟩, ?_, hs1⟩
 show pk1 (pk1 (0#64, 0, false) (secs _ 0)) (secs _ 1) = _
 rw [hs 0 (by omega) (by omega), hs1, pk_0 told_zero]
 have := pk_f (x := (0#64, 0, false)) (b := slotB 1#64 0) g3 rfl
 rw [this]
 exact Prod.ext g1 (Prod.ext g2 rfl)


end Go.Proofs.Ytdingfinclcbgaa

