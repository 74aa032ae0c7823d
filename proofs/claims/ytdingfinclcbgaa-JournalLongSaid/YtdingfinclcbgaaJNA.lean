import Derived.Test.YtdingfinclcbgaaJN9
namespace Go.Proofs.Ytdingfinclcbgaa
set_option maxRecDepth 20000
set_option linter.unusedVariables false
set_option linter.unusedSimpArgs false
open Go.SE Go.RowKit
theorem secs_same {S x : List (BitVec 8)} {k n : Nat} (hS : S.length = n * 64) (hx : x.length = 64) (hk : k < n) : secs (splice S (k * 64) x) k = x := by
 unfold secs splice
 have h1 : (S.take (k * 64)).length = k * 64 := by rw [List.length_take]; omega
 rw [List.append_assoc, List.drop_append, List.drop_eq_nil_of_le (by omega), List.nil_append, h1, Nat.sub_self, List.drop_zero, show 64 = x.length from hx.symm, List.take_left]
theorem secs_other {S x : List (BitVec 8)} {k j n : Nat} (hS : S.length = n * 64) (hx : x.length = 64) (hk : k < n) (hj : j < n) (h : j ≠ k) : secs (splice S (k * 64) x) j = secs S j := by
 unfold secs
 apply List.ext_getElem?
 intro i
 rw [List.getElem?_take, List.getElem?_take]
 split
 ·
  rename_i hi
  rw [List.getElem?_drop, List.getElem?_drop]
  unfold splice
  have h1 : (S.take (k * 64)).length = k * 64 := by rw [List.length_take]; omega
  rcases Nat.lt_or_ge j k with hlt | hge
  · rw [List.append_assoc, List.getElem?_append_left (by omega), List.getElem?_take, if_pos (by omega)]
  ·
   rw [List.getElem?_append_right (by rw [List.length_append]; omega), List.getElem?_drop, List.length_append, h1, hx]
   congr 1
   omega
 · rfl
theorem told_slot (gen : BitVec 64) {ar : Nat} (h : ar ≤ 1) : tdG (slotB gen (ar : Int)) = gen ∧ tdA (slotB gen (ar : Int)) = ar ∧ tdOk (slotB gen (ar : Int)) = true := by
 have h8 := beW_len 8 gen
 have hG : tdG (slotB gen (ar : Int)) = gen := by
  unfold tdG slotB sl32
  rw [List.append_assoc, List.append_assoc, List.append_assoc, show 4 = ([82#8, 76#8, 65#8, 89#8] : List (BitVec 8)).length from rfl, List.drop_left, List.take_left' h8, nuW_be8]
 have hA : tdA (slotB gen (ar : Int)) = ar := by
  unfold tdA slotB sl32
  rw [List.getD_eq_getElem?_getD, List.append_assoc, List.append_assoc, List.getElem?_append_right (by rw [List.length_append, h8]; decide), List.length_append, h8]
  rcases Nat.le_one_iff_eq_zero_or_eq_one.1 h with rfl | rfl <;> rfl
 refine ⟨hG, hA, ?_⟩
 unfold tdOk
 rw [hG, hA, decide_eq_true (by omega), decide_eq_true rfl]
 rfl
/-- The disk of the law: eight sectors, one entry. -/
def dsk0 : List (BitVec 8) := List.replicate (8 * 64) 0#8
def dsk1 : List (BitVec 8) := splice (splice dsk0 (0 * 64) (List.replicate 64 0#8)) (1 * 64) (slotB 1#64 0)
def dsk2 : List (BitVec 8) := splice dsk1 (fstS 8 0 * 64) (secB 1#64 0 [97#8])
theorem dsk0_len : dsk0.length = 8 * 64 := by simp [dsk0]
theorem dsk1_len : dsk1.length = 8 * 64 := splice_len (splice_len dsk0_len (by simp)) (by rw [slotB_len]; decide)
theorem sec97 : (secB 1#64 0 [97#8]).length = 64 := secB_len (by decide)
theorem dsk2_len : dsk2.length = 8 * 64 := splice_len dsk1_len (by rw [sec97]; decide)
theorem secs1 {j : Nat} (h : j < 8) : secs dsk1 j = if j = 1 then slotB 1#64 0 else List.replicate 64 0#8 := by
 have h0 : (splice dsk0 (0 * 64) (List.replicate 64 0#8)).length = 8 * 64 := splice_len dsk0_len (by simp)
 by_cases h1 : j = 1
 ·
  subst h1
  rw [if_pos rfl]
  exact secs_same h0 (slotB_len _ _) (by decide)
 ·
  rw [if_neg h1, dsk1, secs_other h0 (slotB_len _ _) (by decide) h h1]
  by_cases h2 : j = 0
  ·
   subst h2
   exact secs_same dsk0_len (by simp) (by decide)
  ·
   rw [secs_other dsk0_len (by simp) (by decide) h h2]
   exact secs_rep h
theorem secs2 {j : Nat} (h : j < 8) : secs dsk2 j = if j = 2 then secB 1#64 0 [97#8] else secs dsk1 j := by
 by_cases h1 : j = 2
 ·
  subst h1
  rw [if_pos rfl]
  exact secs_same dsk1_len sec97 (by decide)
 ·
  rw [if_neg h1]
  exact secs_other (k := 2) dsk1_len sec97 (by decide) h h1
theorem pk_dsk2 : pkS dsk2 2 = (1#64, ((0 : Nat) : Int), true) := by
 show pk1 (pk1 (0#64, 0, false) (secs dsk2 0)) (secs dsk2 1) = _
 obtain ⟨g1, g2, g3⟩ := told_slot 1#64 (ar := 0) (by decide)
 rw [secs2 (by decide), secs2 (by decide), if_neg (by decide), if_neg (by decide), secs1 (by decide), secs1 (by decide), if_neg (by decide), if_pos rfl, pk_0 told_zero]
 have := pk_f (x := (0#64, 0, false)) (b := slotB 1#64 0) g3 rfl
 rw [this]
 exact Prod.ext g1 (Prod.ext g2 rfl)
theorem stored_dsk2 : StoredL dsk2 8 0 1#64 [[97#8]] := by
 refine ⟨by decide, fun i hi => ?_, fun i h1 h2 => ?_⟩
 ·
  obtain rfl : i = 0 := by simpa using hi
  refine ⟨?_, by decide, by decide⟩
  show secs dsk2 2 = _
  rw [secs2 (by decide), if_pos rfl]
  rfl
 ·
  have h1 : 1 ≤ i := h1
  have h2 : i < 3 := h2
  show secs dsk2 (fstS 8 0 + i) = _
  rw [show fstS 8 0 + i = 2 + i by simp [fstS], secs2 (by omega), if_neg (by omega), secs1 (by omega), if_neg (by omega)]


end Go.Proofs.Ytdingfinclcbgaa

