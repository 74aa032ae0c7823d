import Derived.Test.YtcjfkmhijfcciaaDoorXT2
import Derived.Test.YtcjfkmhijfcciaaDoorXA1
import Derived.Test.YtcjfkmhijfcciaaDoorG1
namespace Go.Proofs.YtcjfkmhijfcciaaDoor
set_option maxRecDepth 20000
set_option linter.unusedVariables false
set_option linter.unusedSimpArgs false
open Go.SE Go.RowKit
/-! records -/
abbrev nKey : List (BitVec 8) := [107#8, 101#8, 121#8]
abbrev nIv : List (BitVec 8) := [105#8, 118#8]
def dkS (s : List (BitVec 8)) : List (BitVec 8) := labS s nKey [] 32
def dvS (s : List (BitVec 8)) : List (BitVec 8) := labS s nIv [] 12
theorem dkS_len (s : List (BitVec 8)) : (dkS s).length = 32 := labS_len _ _ _ _
theorem dvS_len (s : List (BitVec 8)) : (dvS s).length = 12 := labS_len _ _ _ _
theorem der_eq {s : List (BitVec 8)} : splice (splice (List.replicate 44 0#8) 0 (labS s nKey [] 32)) 32 (labS s nIv [] 12) = dkS s ++ dvS s := by
 have h1 : (labS s nKey [] 32).length = 32 := labS_len _ _ _ _
 have h2 : (labS s nIv [] 12).length = 12 := labS_len _ _ _ _
 unfold dkS dvS
 generalize labS s nKey [] 32 = a at *
 generalize labS s nIv [] 12 = b at *
 unfold splice
 have e : (a ++ List.replicate (44 - (0 + 32)) 0#8).drop (32 + 12) = [] := List.drop_eq_nil_of_le (by simp [h1])
 rw [List.take_zero, List.nil_append, h1, h2, List.drop_replicate, e, List.append_nil, List.take_append_of_le_length (by omega), List.take_of_length_le (by omega)]
def kdOk (n : Int) : Bool := decide (20 ≤ n ∧ n ≤ 23)
theorem kdOk_t {n : Int} (h : kdOk n = true) : 20 ≤ n ∧ n ≤ 23 := of_decide_eq_true h
theorem kdOk_f {n : Int} (h : kdOk n = false) : ¬ (20 ≤ n ∧ n ≤ 23) := of_decide_eq_false h
def hdR (t n : Int) : List (BitVec 8) := [BitVec.ofInt 8 t, 3#8, 3#8, BitVec.ofInt 8 (n / 2 ^ 8), BitVec.ofInt 8 n]
theorem hdR_len (t n : Int) : (hdR t n).length = 5 := rfl
def nnI (iv : List (BitVec 8)) (seq : BitVec 64) (i : Nat) : List (BitVec 8) := (List.range 12).map fun j => if 12 ≤ j + i then iv.getD j 0#8 ^^^ (seq >>> (8 * (11 - j))).setWidth 8 else iv.getD j 0#8
def nnS (iv : List (BitVec 8)) (seq : BitVec 64) : List (BitVec 8) := nnI iv seq 8
theorem nnI_len (iv : List (BitVec 8)) (seq : BitVec 64) (i : Nat) : (nnI iv seq i).length = 12 := by simp [nnI]
theorem nnS_len (iv : List (BitVec 8)) (seq : BitVec 64) : (nnS iv seq).length = 12 := nnI_len _ _ _
theorem nnI_get (iv : List (BitVec 8)) (seq : BitVec 64) (i : Nat) {j : Nat} (h : j < 12) : (nnI iv seq i).getD j 0#8 = if 12 ≤ j + i then iv.getD j 0#8 ^^^ (seq >>> (8 * (11 - j))).setWidth 8 else iv.getD j 0#8 := by
 simp [nnI, List.getD_eq_getElem?_getD, h]
theorem nnI_zero {iv : List (BitVec 8)} (h : iv.length = 12) (seq : BitVec 64) : nnI iv seq 0 = iv := by
 refine List.ext_getElem (by rw [nnI_len, h]) fun j h1 h2 => ?_
 rw [nnI_len] at h1
 simp [nnI, show ¬ 12 ≤ j by omega, List.getD_eq_getElem?_getD, h2]
theorem nnI_step {iv : List (BitVec 8)} {seq : BitVec 64} {i : Nat} (hi : i < 8) : (nnI iv seq i).set (11 - i) ((nnI iv seq i).getD (11 - i) 0#8 ^^^ (seq >>> ((8 * (i : Int)) : Int).toNat).setWidth 8) = nnI iv seq (i + 1) := by
 rw [show ((8 * (i : Int)) : Int).toNat = 8 * i by omega, nnI_get _ _ _ (show 11 - i < 12 by omega), if_neg (show ¬ 12 ≤ 11 - i + i by omega)]
 refine List.ext_getElem (by simp [nnI_len]) fun j h1 h2 => ?_
 rw [List.length_set, nnI_len] at h1
 by_cases e : j = 11 - i
 ·
  subst e
  rw [List.getElem_set_self]
  simp [nnI, show ¬ 12 ≤ 11 - i + i by omega, show 12 ≤ 11 - i + (i + 1) by omega, show 11 - (11 - i) = i by omega]
 ·
  rw [List.getElem_set_ne (by omega)]
  simp only [nnI, List.getElem_map, List.getElem_range]
  by_cases c : 12 ≤ j + i
  · rw [if_pos c, if_pos (by omega)]
  · rw [if_neg c, if_neg (by omega)]
theorem nnI_all (iv : List (BitVec 8)) (seq : BitVec 64) : nnI iv seq 8 = nnS iv seq := rfl
/-! what is sealed -/
def rsOk (kd : Int) (n : Nat) (pad : Int) : Bool := decide (20 ≤ kd ∧ kd ≤ 23 ∧ 0 ≤ pad ∧ pad ≤ 257 ∧ (n : Int) + 1 + pad ≤ 257)
theorem rsOk_t {kd : Int} {n : Nat} {pad : Int} (h : rsOk kd n pad = true) : 20 ≤ kd ∧ kd ≤ 23 ∧ 0 ≤ pad ∧ pad ≤ 257 ∧ (n : Int) + 1 + pad ≤ 257 := of_decide_eq_true h
def inR (txt : List (BitVec 8)) (kd pad : Int) : List (BitVec 8) := (txt ++ [BitVec.ofInt 8 kd]) ++ List.replicate pad.toNat 0#8
theorem inR_len (txt : List (BitVec 8)) (kd pad : Int) : (inR txt kd pad).length = txt.length + 1 + pad.toNat := by simp [inR]; omega
def rsB (key iv : List (BitVec 8)) (seq : BitVec 64) (kd : Int) (txt : List (BitVec 8)) (pad : Int) : List (BitVec 8) := sealS key (nnS iv seq) (inR txt kd pad) (hdR 23 (((inR txt kd pad).length : Int) + 16))
def rsT (key iv : List (BitVec 8)) (seq : BitVec 64) (kd : Int) (txt : List (BitVec 8)) (pad : Int) : List (BitVec 8) := if rsOk kd txt.length pad then hdR 23 (((inR txt kd pad).length : Int) + 16) ++ rsB key iv seq kd txt pad else []
def rsE (kd : Int) (n : Nat) (pad : Int) : Int := if rsOk kd n pad then 0 else 1
theorem rsT_t {key iv : List (BitVec 8)} {seq : BitVec 64} {kd : Int} {txt : List (BitVec 8)} {pad : Int} (h : rsOk kd txt.length pad = true) : rsT key iv seq kd txt pad = hdR 23 (((inR txt kd pad).length : Int) + 16) ++ rsB key iv seq kd txt pad := if_pos h
theorem rsT_f {key iv : List (BitVec 8)} {seq : BitVec 64} {kd : Int} {txt : List (BitVec 8)} {pad : Int} (h : rsOk kd txt.length pad = false) : rsT key iv seq kd txt pad = [] := by rw [rsT, h]; rfl
theorem rsE_t {kd : Int} {n : Nat} {pad : Int} (h : rsOk kd n pad = true) : rsE kd n pad = 0 := if_pos h
theorem rsE_f {kd : Int} {n : Nat} {pad : Int} (h : rsOk kd n pad = false) : rsE kd n pad = 1 := by rw [rsE, h]; rfl
theorem rsB_len (key iv : List (BitVec 8)) (seq : BitVec 64) (kd : Int) (txt : List (BitVec 8)) (pad : Int) : (rsB key iv seq kd txt pad).length = txt.length + 17 + pad.toNat := by rw [rsB, sealS_len, inR_len]; omega
theorem rsT_len {key iv : List (BitVec 8)} {seq : BitVec 64} {kd : Int} {txt : List (BitVec 8)} {pad : Int} (h : rsOk kd txt.length pad = true) : (rsT key iv seq kd txt pad).length = txt.length + 22 + pad.toNat := by
 rw [rsT_t h, List.length_append, rsB_len, hdR_len]; omega
theorem rsT_le (key iv : List (BitVec 8)) (seq : BitVec 64) (kd : Int) (txt : List (BitVec 8)) (pad : Int) : (rsT key iv seq kd txt pad).length ≤ 300 := by
 cases h : rsOk kd txt.length pad
 · rw [rsT_f h]; decide
 ·
  have := rsOk_t h
  rw [rsT_len h]; omega
/-! what is opened -/
def trN (b : List (BitVec 8)) : Nat → Nat
 | 0 => 0
 | n + 1 => if b.getD n 0#8 = 0#8 then trN b n else n + 1
theorem trN_le (b : List (BitVec 8)) : ∀ n, trN b n ≤ n
 | 0 => Nat.le_refl _
 | n + 1 => by
  have := trN_le b n
  unfold trN; split <;> omega
theorem trN_z {b : List (BitVec 8)} {n : Nat} (h : b.getD n 0#8 = 0#8) : trN b (n + 1) = trN b n := if_pos h
theorem trN_n {b : List (BitVec 8)} {n : Nat} (h : b.getD n 0#8 ≠ 0#8) : trN b (n + 1) = n + 1 := if_neg h
def trL (b : List (BitVec 8)) : Nat := trN b b.length
theorem trN_0 (b : List (BitVec 8)) : trN b 0 = 0 := rfl
theorem trL_eq (b : List (BitVec 8)) : trL b = trN b b.length := rfl
/-- the type of what was opened: 0 of nothing -/
def trK (b : List (BitVec 8)) : Int := if trL b = 0 then 0 else ((b.getD (trL b - 1) 0#8).toNat : Int)
def roX (key iv : List (BitVec 8)) (seq : BitVec 64) (b : List (BitVec 8)) : List (BitVec 8) := openT key (nnS iv seq) b (hdR 23 b.length)
def roO (key iv : List (BitVec 8)) (seq : BitVec 64) (b : List (BitVec 8)) : Bool := openOk key (nnS iv seq) b (hdR 23 b.length)
def roE (key iv : List (BitVec 8)) (seq : BitVec 64) (b : List (BitVec 8)) : Int := if 273 < b.length then 1 else if roO key iv seq b then (if kdOk (trK (roX key iv seq b)) then 0 else 3) else 4
def roK (key iv : List (BitVec 8)) (seq : BitVec 64) (b : List (BitVec 8)) : Int := if roE key iv seq b = 0 then trK (roX key iv seq b) else 0
def roT (key iv : List (BitVec 8)) (seq : BitVec 64) (b : List (BitVec 8)) : List (BitVec 8) := if roE key iv seq b = 0 then (roX key iv seq b).take (trL (roX key iv seq b) - 1) else []
theorem ro_bad {key iv : List (BitVec 8)} {seq : BitVec 64} {b : List (BitVec 8)} (h : roE key iv seq b ≠ 0) : roK key iv seq b = 0 ∧ roT key iv seq b = [] := ⟨if_neg h, if_neg h⟩
theorem ro_1 {key iv : List (BitVec 8)} {seq : BitVec 64} {b : List (BitVec 8)} (h : 273 < b.length) : roE key iv seq b = 1 ∧ roK key iv seq b = 0 ∧ roT key iv seq b = [] := by
 have e : roE key iv seq b = 1 := if_pos h
 exact ⟨e, ro_bad (by rw [e]; decide)⟩
theorem ro_4 {key iv : List (BitVec 8)} {seq : BitVec 64} {b : List (BitVec 8)} (h : ¬ 273 < b.length) (h2 : roO key iv seq b = false) : roE key iv seq b = 4 ∧ roK key iv seq b = 0 ∧ roT key iv seq b = [] := by
 have e : roE key iv seq b = 4 := by rw [roE, if_neg h, h2]; rfl
 exact ⟨e, ro_bad (by rw [e]; decide)⟩
theorem ro_3 {key iv : List (BitVec 8)} {seq : BitVec 64} {b : List (BitVec 8)} (h : ¬ 273 < b.length) (h2 : roO key iv seq b = true) (h3 : kdOk (trK (roX key iv seq b)) = false) : roE key iv seq b = 3 ∧ roK key iv seq b = 0 ∧ roT key iv seq b = [] := by
 have e : roE key iv seq b = 3 := by rw [roE, if_neg h, if_pos h2, h3]; rfl
 exact ⟨e, ro_bad (by rw [e]; decide)⟩
theorem ro_0 {key iv : List (BitVec 8)} {seq : BitVec 64} {b : List (BitVec 8)} (h : ¬ 273 < b.length) (h2 : roO key iv seq b = true) (h3 : kdOk (trK (roX key iv seq b)) = true) : roE key iv seq b = 0 ∧ roK key iv seq b = trK (roX key iv seq b) ∧ roT key iv seq b = (roX key iv seq b).take (trL (roX key iv seq b) - 1) := by
 have e : roE key iv seq b = 0 := by rw [roE, if_neg h, if_pos h2, if_pos h3]
 exact ⟨e, if_pos e, if_pos e⟩
theorem openE_f {key n b m : List (BitVec 8)} (h : openE key n b m ≠ 0) : openOk key n b m = false := by
 rw [← openE_ok]; simpa using h
theorem openE_t {key n b m : List (BitVec 8)} (h : openE key n b m = 0) : openOk key n b m = true := by
 rw [← openE_ok]; simpa using h
theorem notT {x : Bool} (h : (!x) = true) : x = false := by cases x <;> simp_all
theorem notF {x : Bool} (h : (!x) = false) : x = true := by cases x <;> simp_all
theorem trK_no {b : List (BitVec 8)} (h : trL b = 0) : kdOk (trK b) = false := by rw [trK, if_pos h]; rfl
theorem trK_at {b : List (BitVec 8)} (h : trL b ≠ 0) : trK b = ((b.getD (trL b - 1) 0#8).toNat : Int) := if_neg h
theorem tr_end {t : List (BitVec 8)} {x : BitVec 8} (hx : x ≠ 0#8) (p : Nat) : trL ((t ++ [x]) ++ List.replicate p 0#8) = t.length + 1 := by
 have hl : ((t ++ [x]) ++ List.replicate p 0#8).length = t.length + 1 + p := by simp; omega
 have key : ∀ k, k ≤ p → trN ((t ++ [x]) ++ List.replicate p 0#8) (t.length + 1 + k) = t.length + 1 := by
  intro k
  induction k with
  | zero =>
   intro _
   rw [Nat.add_zero, trN_n]
   simpa [List.getD_eq_getElem?_getD] using hx
  | succ k ih =>
   intro hk
   rw [← Nat.add_assoc, trN_z, ih (by omega)]
   rw [List.getD_eq_getElem?_getD, List.getElem?_append_right (by simp), List.getElem?_replicate]
   simp [show t.length + 1 + k - (t.length + 1) = k by omega, show k < p by omega]
 rw [trL, hl, key p (Nat.le_refl _)]
theorem kd_byte {kd : Int} (h : 20 ≤ kd ∧ kd ≤ 23) : BitVec.ofInt 8 kd ≠ 0#8 ∧ ((BitVec.ofInt 8 kd).toNat : Int) = kd := by
 have : kd = 20 ∨ kd = 21 ∨ kd = 22 ∨ kd = 23 := by omega
 rcases this with rfl | rfl | rfl | rfl <;> decide
/-- what was sealed is opened -/
theorem ro_rs {key iv : List (BitVec 8)} {seq : BitVec 64} {kd : Int} {txt : List (BitVec 8)} {pad : Int} (h : rsOk kd txt.length pad = true) :
  roE key iv seq (rsB key iv seq kd txt pad) = 0 ∧ roK key iv seq (rsB key iv seq kd txt pad) = kd ∧ roT key iv seq (rsB key iv seq kd txt pad) = txt := by
 have hb := rsOk_t h
 have hl := rsB_len key iv seq kd txt pad
 obtain ⟨k1, k2⟩ := kd_byte ⟨hb.1, hb.2.1⟩
 have e : (rsB key iv seq kd txt pad).length = (inR txt kd pad).length + 16 := by rw [rsB, sealS_len]
 have o : roO key iv seq (rsB key iv seq kd txt pad) = true := by rw [roO, e]; exact open_seal _ _ _ _
 have x : roX key iv seq (rsB key iv seq kd txt pad) = inR txt kd pad := by rw [roX, e]; exact openT_seal _ _ _ _
 have t : trL (inR txt kd pad) = txt.length + 1 := tr_end k1 _
 have g : (inR txt kd pad).getD txt.length 0#8 = BitVec.ofInt 8 kd := by simp [inR, List.getD_eq_getElem?_getD]
 have k : trK (inR txt kd pad) = kd := by rw [trK_at (by omega), t, Nat.add_sub_cancel, g, k2]
 have z := ro_0 (key := key) (iv := iv) (seq := seq) (b := rsB key iv seq kd txt pad) (by omega) o (by rw [x, k]; exact decide_eq_true ⟨hb.1, hb.2.1⟩)
 refine ⟨z.1, by rw [z.2.1, x, k], ?_⟩
 rw [z.2.2, x, t, Nat.add_sub_cancel, inR, List.append_assoc, List.take_left' rfl]
theorem rsT_drop {key iv : List (BitVec 8)} {seq : BitVec 64} {kd : Int} {txt : List (BitVec 8)} {pad : Int} (h : rsOk kd txt.length pad = true) : (rsT key iv seq kd txt pad).drop 5 = rsB key iv seq kd txt pad := by
 rw [rsT_t h]; exact List.drop_left' (hdR_len _ _)
theorem rs_open {key iv : List (BitVec 8)} {seq : BitVec 64} {kd : Int} {txt : List (BitVec 8)} {pad : Int} (h : rsOk kd txt.length pad = true) :
  roE key iv seq (((rsT key iv seq kd txt pad).drop 5).take ((rsT key iv seq kd txt pad).length - 5)) = 0 ∧ roK key iv seq (((rsT key iv seq kd txt pad).drop 5).take ((rsT key iv seq kd txt pad).length - 5)) = kd ∧ roT key iv seq (((rsT key iv seq kd txt pad).drop 5).take ((rsT key iv seq kd txt pad).length - 5)) = txt := by
 rw [List.take_of_length_le (by rw [List.length_drop]; exact Nat.le_refl _), rsT_drop h]
 exact ro_rs h
attribute [local irreducible] macS sumS labS expS sealS openT openE openOk aTag streamS
set_option maxHeartbeats 2000000 in
theorem c_BClone {b : List (BitVec 8)} {Ab : Option Addr} {nb cb bb qb : Nat} (hnb : b.length = nb) (hAb : 0 < nb → Ab = some ⟨bb, qb, none⟩) (hl : nb ≤ 1000000) :
  Con Tryd.prog 23 [.slice Ab nb cb] [pRow bb qb b] (fun v rs => ∃ (A' : Option Addr) (b' c' : Nat), (0 < c' → A' = some ⟨b', 0, none⟩) ∧ b.length ≤ c' ∧ v = .slice A' b.length c' ∧ rs = [⟨true, b', 0, 5, (b).map u8V, c' - (b).length⟩]) := by
 refine Con.enter Tryd.func23 Tryd.ntmps23 (Nat.le_of_ble_eq_true rfl) rfl fun w => ?_
 refine At.seq ?_
 refine At.region ?_
 refine At.p (some 2) (P_assign rfl rfl) ?_
 refine At.nil ?_
 refine At.next ?_
 refine At.seq ?_
 refine At.seq ?_
 refine At.region ?_
 refine At.p (some 3) (P_move rfl rfl) ?_
 refine At.p (some 4) (P_eql_slnil rfl Tryd.underlying36 rfl rfl) ?_
 refine At.nil ?_
 refine At.next ?_
 refine At.cond rfl (fun h4 => ?_) (fun h4 => ?_)
 · -- cond 4 t
  refine At.seq ?_
  refine At.region ?_
  refine At.p (some 2) (P_assign rfl rfl) ?_
  refine At.nil ?_
  refine At.next ?_
  refine At.ret ?_
  refine At.thn_r ?_
  refine At.empty 990 0 5 ?_
  have hq0 : ([] : List (BitVec 8)) = b := (by have h0 : nb = 0 := Nat.eq_zero_of_not_pos (fun h => by have h2 := hAb h; rw [h2] at h4; cases h4); exact (List.eq_nil_of_length_eq_zero (hnb.trans h0)).symm)
  refine At.give (.inl rfl) [990] (rows' := [_]) (vs := [_]) rfl ⟨rfl, trivial⟩ rfl (by simp) (by simp) ⟨none, 0, 0, (fun h => absurd h (Nat.lt_irrefl 0)), (by rw [← hq0]; exact Nat.le_refl _), (by first | (rw [hq0]; try rfl; done) | (rw [← hq0]; try rfl; done) | (simp only [hq0]; try rfl; done) | (simp only [← hq0]; try rfl; done) | rfl), (by first | (rw [hq0]; try rfl; done) | (rw [← hq0]; try rfl; done) | (simp only [hq0]; try rfl; done) | (simp only [← hq0]; try rfl; done) | rfl)⟩
 · -- cond 4 f
  refine At.skip ?_
  refine At.next ?_
  refine At.seq ?_
  refine At.region ?_
  refine At.s (S_buildSlice0 (some 5) 5 rfl Tryd.underlying36 sz5 (fun b5 => ?_))
  refine At.p (some 6) (P_move rfl rfl) ?_
  refine At.s (S_appendM (some 7) 5 (b) (f := u8V) (l := []) (L := b) (m := nb) rfl Tryd.underlying36 Tryd.underlying36 (.inr ⟨_, rfl⟩) sz5 by5 ze5 rfl rfl (fun h => ⟨rfl, rfl⟩) LN OG (Src.all (k := 0) (l := b) rfl hAb (fun _ => ⟨rfl, rfl, rfl⟩) LN) (fun _ => rfl) OG OG rfl LN ?_)
  intro A7 b7 c7 g7a g7b
  refine At.p (some 2) (P_assign rfl rfl) ?_
  refine At.nil ?_
  refine At.next ?_
  refine At.ret ?_
  refine At.give (.inl rfl) [5] (rows' := [_]) (vs := [_]) rfl ⟨rfl, trivial⟩ rfl (by simp) (by simp) ⟨A7, b7, c7, g7a, (by first | omega | (simp; done) | (simp <;> omega) | exact Nat.le_refl _), rfl, rfl⟩

set_option maxHeartbeats 2000000 in
theorem c_Der {s : List (BitVec 8)} (hs : s.length = 32) :
  Con Tryd.prog 13 [aggK s] [] (fun v rs => v = .agg ([(dkS s).map u8V, (dvS s).map u8V].flatten).toArray ∧ rs = []) := by
 refine Con.enter Tryd.func13 Tryd.ntmps13 (Nat.le_of_ble_eq_true rfl) rfl fun w => ?_
 refine At.seq ?_
 refine At.region ?_
 refine At.s (S_box (some 1) 1 (zs := (s).map u8V) rfl rfl rfl (fun b1 => ?_))
 refine At.s (S_alloc (some 2) 2 (zs := [(List.replicate 32 0#8).map u8V, (List.replicate 12 0#8).map u8V].flatten) rfl ze41 rfl (fun b2 => ?_))
 refine At.nil ?_
 refine At.next ?_
 refine At.seq ?_
 refine At.region ?_
 refine At.s (S_alloc (some 3) 3 (zs := (List.replicate 44 0#8).map u8V) rfl ze41 rfl (fun b3 => ?_))
 refine At.nil ?_
 refine At.next ?_
 refine At.seq ?_
 refine At.region ?_
 refine At.q (some 9) (Q_loadA (k := 1) rfl rfl Tryd.underlying22 rfl sz22 LN rfl) ?_
 refine At.s (S_callV (some 10) [(98, _)] [10] (vs := [_, _, _, _]) rfl en21 rfl (VE rfl rfl V0) (by simp) (c_Label (key := s) (lb := nKey) (cx := ([] : List (BitVec 8))) (nc := 0) (A := none) (bq := 0) (q := 0) 32 LN LN OG LN1 LN1 OG (fun h => absurd h (Nat.lt_irrefl 0))) (by rintro _ _ ⟨A10, b10, c10, r10, m10, g10a, g10b, rfl, rfl⟩; rfl) ?_)
 rintro _ _ ⟨A10, b10, c10, r10, m10, g10a, g10b, rfl, rfl⟩
 refine At.forgetM 10 rfl ?_
 have hl10 : (labS s nKey ([] : List (BitVec 8)) 32).length = 32 := labS_len _ _ _ _
 refine At.p (some 8) (P_move rfl rfl) ?_
 refine At.p (some 11) (P_extract rfl rfl rfl) ?_
 refine At.p (some 12) (P_extract rfl rfl rfl) ?_
 refine At.p (some 4) (P_assign rfl rfl) ?_
 refine At.p (some 5) (P_assign rfl rfl) ?_
 refine At.nil ?_
 refine At.next ?_
 refine At.seq ?_
 refine At.region ?_
 refine At.q (some 14) (Q_loadA (k := 1) rfl rfl Tryd.underlying22 rfl sz22 LN rfl) ?_
 refine At.s (S_callV (some 15) [(98, _)] [15] (vs := [_, _, _, _]) rfl en21 rfl (VE rfl rfl V0) (by simp) (c_Label (key := s) (lb := nIv) (cx := ([] : List (BitVec 8))) (nc := 0) (A := none) (bq := 0) (q := 0) 12 LN LN OG LN1 LN1 OG (fun h => absurd h (Nat.lt_irrefl 0))) (by rintro _ _ ⟨A15, b15, c15, r15, m15, g15a, g15b, rfl, rfl⟩; rfl) ?_)
 rintro _ _ ⟨A15, b15, c15, r15, m15, g15a, g15b, rfl, rfl⟩
 refine At.forgetM 15 rfl ?_
 have hl15 : (labS s nIv ([] : List (BitVec 8)) 12).length = 12 := labS_len _ _ _ _
 refine At.p (some 13) (P_move rfl rfl) ?_
 refine At.p (some 16) (P_extract rfl rfl rfl) ?_
 refine At.p (some 17) (P_extract rfl rfl rfl) ?_
 refine At.p (some 6) (P_assign rfl rfl) ?_
 refine At.p (some 7) (P_assign rfl rfl) ?_
 refine At.nil ?_
 refine At.next ?_
 refine At.seq ?_
 refine At.region ?_
 refine At.p (some 18) (P_fieldAddr0 (off := 0) rfl Tryd.underlying41 rfl sz22 rfl rfl) ?_
 refine At.p (some 19) (P_slice_arr1 (l := 0) (h := 32) (m := 32) rfl Tryd.underlying22 sz5 rfl rfl rfl rfl DO DO DO DO) ?_
 refine At.p (some 20) (P_move rfl rfl) ?_
 refine At.s (S_copyM (some 21) 3 10 (j := 0) (m := 32) (n := 32) (S := (List.replicate 44 0#8)) (L := (labS s nKey ([] : List (BitVec 8)) 32)) (p := 0) rfl Tryd.underlying36 sz5 rfl (fun h => (fun _ => rfl) OG) rfl rfl (fun h => g10a OG) (fun _ => ⟨rfl, rfl, rfl⟩) (take_full LN) OG LN (fun _ => rfl) OG ?_)
 have : (splice (List.replicate 44 0#8) 0 (labS s nKey ([] : List (BitVec 8)) 32)).length = 44 := (splice_length _ _ _ LN).trans LN
 refine At.nil ?_
 refine At.next ?_
 refine At.seq ?_
 refine At.region ?_
 refine At.p (some 22) (P_fieldAddr0 (off := 32) rfl Tryd.underlying41 rfl sz39 rfl rfl) ?_
 refine At.p (some 23) (P_slice_arr (l := 0) (h := 12) (m := 12) rfl Tryd.underlying39 sz5 rfl rfl rfl rfl DO DO DO DO) ?_
 refine At.p (some 24) (P_move rfl rfl) ?_
 refine At.s (S_copyM (some 25) 3 15 (j := 0) (m := 12) (n := 12) (S := (splice (List.replicate 44 0#8) 0 (labS s nKey ([] : List (BitVec 8)) 32))) (L := (labS s nIv ([] : List (BitVec 8)) 12)) (p := 32) rfl Tryd.underlying36 sz5 rfl (fun h => (fun _ => rfl) OG) rfl rfl (fun h => g15a OG) (fun _ => ⟨rfl, rfl, rfl⟩) (take_full LN) OG LN (fun _ => rfl) OG ?_)
 have : (splice (splice (List.replicate 44 0#8) 0 (labS s nKey ([] : List (BitVec 8)) 32)) 32 (labS s nIv ([] : List (BitVec 8)) 12)).length = 44 := (splice_length _ _ _ LN).trans LN
 refine At.nil ?_
 refine At.next ?_
 refine At.seq ?_
 refine At.region ?_
 refine At.q (some 26) (Q_loadA (k := 3) rfl rfl Tryd.underlying41 rfl sz41 LN rfl) ?_
 refine At.s (S_storeA none (k := 2) (vs := ((splice (splice (List.replicate 44 0#8) 0 (labS s nKey ([] : List (BitVec 8)) 32)) 32 (labS s nIv ([] : List (BitVec 8)) 12))).map u8V) rfl rfl rfl (by rw [sz41]; exact congrArg some LN) rfl (one_map (fun _ => rfl)) NG rfl LN ?_)
 refine At.nil ?_
 refine At.next ?_
 refine At.ret ?_
 have hq0 : ((splice (splice (List.replicate 44 0#8) 0 (labS s nKey ([] : List (BitVec 8)) 32)) 32 (labS s nIv ([] : List (BitVec 8)) 12))).map u8V = [(dkS s).map u8V, (dvS s).map u8V].flatten := (by rw [der_eq]; exact List.map_append.trans (by simp))
 refine At.giveV (.inl rfl) [] (rows' := []) (ResV.cellA (k := 2) rfl rfl Tryd.underlying41 rfl sz41 LN rfl) rfl (by simp) (by simp) ?_
 exact ⟨congrArg (fun z => Value.agg (List.toArray z)) hq0, rfl⟩

set_option maxHeartbeats 2000000 in
theorem c_Non {key : List (BitVec 8)} {iv : List (BitVec 8)} {seq : BitVec 64} (hkey : key.length = 32) (hiv : iv.length = 12) :
  Con Tryd.prog 26 [.agg ([(key).map u8V, (iv).map u8V].flatten).toArray, u64V seq] [] (fun v rs => v = aggK (nnS iv seq) ∧ rs = []) := by
 refine Con.enter Tryd.func26 Tryd.ntmps26 (Nat.le_of_ble_eq_true rfl) rfl fun w => ?_
 refine At.seq ?_
 refine At.region ?_
 refine At.s (S_box (some 2) 2 (zs := [(key).map u8V, (iv).map u8V].flatten) rfl rfl rfl (fun b2 => ?_))
 refine At.s (S_alloc (some 4) 4 (zs := (List.replicate 12 0#8).map u8V) rfl ze39 rfl (fun b4 => ?_))
 refine At.nil ?_
 refine At.next ?_
 refine At.seq ?_
 refine At.region ?_
 refine At.p (some 7) (P_fieldAddr0 (off := 32) rfl Tryd.underlying41 rfl sz39 rfl rfl) ?_
 refine At.q (some 8) (Q_loadN (k := 2) (j := 32) (cs := (iv).map u8V) rfl rfl Tryd.underlying39 rfl sz39 rfl rfl rfl (seg_at (i := 1) rfl LN LN) LN) ?_
 refine At.s (S_alloc (some 5) 5 (zs := (List.replicate 12 0#8).map u8V) rfl ze39 rfl (fun b5 => ?_))
 refine At.s (S_storeA none (k := 5) (vs := (iv).map u8V) rfl rfl rfl (by rw [sz39]; exact congrArg some LN) rfl (one_map (fun _ => rfl)) NG rfl LN ?_)
 refine At.nil ?_
 refine At.next ?_
 refine At.seq ?_
 refine At.seq ?_
 refine At.region ?_
 refine At.p (some 9) (P_move rfl rfl) ?_
 refine At.nil ?_
 refine At.next ?_
 refine At.block ?_
 refine At.loopx (I := fun m fr H => ∃ (i : Nat), m = 8 - i ∧ fr = frOf [(0, .agg ([(key).map u8V, (iv).map u8V].flatten).toArray), (1, u64V seq), (2, ptr b2 0), (4, ptr b4 0), (5, ptr b5 0), (7, ptr b2 32), (8, aggK iv), (9, iV (i : Int))] ∧ H = hOf [(2, ⟨true, b2, 0, 41, [(key).map u8V, (iv).map u8V].flatten, 0⟩), (4, ⟨true, b4, 0, 39, (List.replicate 12 0#8).map u8V, 0⟩), (5, ⟨true, b5, 0, 39, ((nnI iv seq i)).map u8V, 0⟩)] ∧ (i ≤ 8)) ?_ ?_
 ·
  intro Kc0 hKc0
  refine At.to [(0, _), (1, _), (2, _), (4, _), (5, _), (7, _), (8, _), (9, _)] [(2, _), (4, _), (5, ⟨true, b5, 0, 39, ((nnI iv seq 0)).map u8V, 0⟩)] (AllL.cons_ (rfl) (AllL.cons_ (rfl) (AllL.cons_ (rfl) (AllL.cons_ (rfl) (AllL.cons_ (rfl) (AllL.cons_ (rfl) (AllL.cons_ (rfl) (AllL.cons_ (rfl) trivial)))))))) (AllL.cons_ (rfl) (AllL.cons_ (rfl) (AllL.cons_ ((by rw [nnI_zero hiv]; rfl)) trivial))) ?_
  exact hKc0 _ _ _ ⟨0, rfl, rfl, rfl, (by omega)⟩
 ·
  rintro m fr H ⟨i, rfl, rfl, rfl, hi⟩ Kc0 hKc0
  have hnl := nnI_len iv seq i
  refine At.seq ?_
  refine At.region ?_
  refine At.p (some 10) (P_cmp rfl rfl rfl rfl rfl rfl) ?_
  refine At.nil ?_
  refine At.next ?_
  refine At.seq ?_
  refine At.cond rfl (fun h10 => ?_) (fun h10 => ?_)
  · -- cond 10 t
   have e10 : (i : Int) < 8 := of_decide_eq_true h10
   refine At.skip ?_
   refine At.next ?_
   refine At.seq ?_
   refine At.block ?_
   refine At.seq ?_
   refine At.region ?_
   refine At.p (some 11) (P_move rfl rfl) ?_
   refine At.p (some 6) (P_assign rfl rfl) ?_
   refine At.nil ?_
   refine At.next ?_
   refine At.draws 9 [] [.q false [0, 1, 2, 3, 4, 5, 6, 7, 8]] (by kernel_rfl) (by kernel_rfl) ?_
   refine At.wp (some 12) (P_move rfl rfl) ?_
   refine At.wp (some 13) (P_sub_i rfl rfl rfl (by omega)) ?_
   refine At.wp (some 14) (P_indexAddr_arr1 (j := (11 - i)) rfl Tryd.underlying39 sz5 rfl rfl RO OG) ?_
   refine At.wq (some 15) (Q_loadM (k := 5) (f := u8V) (l := (nnI iv seq i)) (0#8) rfl rfl Tryd.underlying5 rfl rfl OG) ?_
   refine At.wp (some 16) (P_move rfl rfl) ?_
   refine At.wp (some 17) (P_move rfl rfl) ?_
   refine At.wp (some 18) (P_mul_i rfl rfl rfl (by omega)) ?_
   refine At.wp (some 19) (P_shr_w UK.u64 (n := 64) rfl rfl rfl (by first | decide | omega)) ?_
   refine At.wp (some 20) (P_conv_ww UK.u8 (m := 64) rfl Tryd.underlying26 Tryd.underlying5 rfl) ?_
   refine At.wqn ?_
   refine At.wt rfl ?_
   refine At.p (some 21) (P_xor_w UK.u8 rfl rfl rfl) ?_
   refine At.p (some 22) (P_indexAddr_arr1 (j := (11 - i)) rfl Tryd.underlying39 sz5 rfl rfl RO OG) ?_
   refine At.s (S_storeM none (f := u8V) (l := (nnI iv seq i)) (u := (((nnI iv seq i).getD (11 - i) 0#8) ^^^ ((seq >>> ((8 * (i : Int)) : Int).toNat).setWidth 8))) (k := 5) rfl rfl rfl sz5 rfl rfl rfl OG ?_)
   refine At.nil ?_
   refine At.inb_n ?_
   refine At.next ?_
   refine At.region ?_
   refine At.p (some 23) (P_add_i rfl rfl rfl (by omega)) ?_
   refine At.p (some 9) (P_move rfl rfl) ?_
   refine At.nil ?_
   refine At.next ?_
   refine At.to [(0, _), (1, _), (2, _), (4, _), (5, _), (7, _), (8, _), (9, _)] [(2, _), (4, _), (5, ⟨true, b5, 0, 39, ((nnI iv seq (i + 1))).map u8V, 0⟩)] (AllL.cons_ (rfl) (AllL.cons_ (rfl) (AllL.cons_ (rfl) (AllL.cons_ (rfl) (AllL.cons_ (rfl) (AllL.cons_ (rfl) (AllL.cons_ (rfl) (AllL.cons_ (rfl) trivial)))))))) (AllL.cons_ (rfl) (AllL.cons_ (rfl) (AllL.cons_ ((by rw [← nnI_step (by omega)]; rfl)) trivial))) ?_
   exact hKc0 _ _ _ (by omega) ⟨i + 1, rfl, rfl, rfl, (by omega)⟩
  · -- cond 10 f
   have e10 : ¬ (i : Int) < 8 := of_decide_eq_false h10
   refine At.exit ?_
   refine At.thn_e ?_
   refine At.thn_e ?_
   refine At.inb_hit ?_
   refine At.next ?_
   refine At.seq ?_
   obtain rfl : i = 8 := by omega
   have hnl := nnI_len iv seq 8
   refine At.region ?_
   refine At.q (some 24) (Q_loadA (k := 5) rfl rfl Tryd.underlying39 rfl sz39 LN rfl) ?_
   refine At.s (S_storeA none (k := 4) (vs := ((nnI iv seq 8)).map u8V) rfl rfl rfl (by rw [sz39]; exact congrArg some LN) rfl (one_map (fun _ => rfl)) NG rfl LN ?_)
   refine At.nil ?_
   refine At.next ?_
   refine At.ret ?_
   have hq0 : ((nnI iv seq 8)).map u8V = (nnS iv seq).map u8V := (by rw [nnI_all])
   refine At.giveV (.inl rfl) [] (rows' := []) (ResV.cellA (k := 4) rfl rfl Tryd.underlying39 rfl sz39 LN rfl) rfl (by simp) (by simp) ?_
   exact ⟨congrArg (fun z => Value.agg (List.toArray z)) hq0, rfl⟩

set_option maxHeartbeats 2000000 in
theorem c_kd {n : Int}  :
  Con Tryd.prog 22 [iV n] [] (fun v rs => v = .bool (kdOk n) ∧ rs = []) := by
 refine Con.enter Tryd.func22 Tryd.ntmps22 (Nat.le_of_ble_eq_true rfl) rfl fun w => ?_
 refine At.seq ?_
 refine At.region ?_
 refine At.p (some 2) (P_assign rfl rfl) ?_
 refine At.nil ?_
 refine At.next ?_
 refine At.seq ?_
 refine At.region ?_
 refine At.p (some 3) (P_move rfl rfl) ?_
 refine At.p (some 4) (P_cmp rfl rfl rfl rfl rfl rfl) ?_
 refine At.p (some 5) (P_move rfl rfl) ?_
 refine At.gsplit (t := 5) (want := true) rfl (fun g1 => ?_) (fun g1 => ?_)
 ·
  have eg1 : n ≥ 20 := of_decide_eq_true g1
  refine At.gy (t := 5) rfl g1 rfl rfl ?_
  refine At.p (some 6) (P_move rfl rfl) ?_
  refine At.gy (t := 5) rfl g1 rfl rfl ?_
  refine At.p (some 7) (P_cmp rfl rfl rfl rfl rfl rfl) ?_
  refine At.p (some 8) (P_pick_t rfl rfl g1 rfl) ?_
  refine At.p (some 2) (P_assign rfl rfl) ?_
  refine At.nil ?_
  refine At.next ?_
  refine At.ret ?_
  have hq0 : (decide (n ≤ 23)) = (kdOk n) := (by first | (simp [kdOk]; omega) | (simp [kdOk, *]; done) | (simp [kdOk, *]; omega))
  refine At.give (.inl rfl) [] (rows' := []) (vs := [_]) rfl ⟨rfl, trivial⟩ rfl (by simp) (by simp) ⟨(by first | (rw [hq0]; try rfl; done) | (rw [← hq0]; try rfl; done) | (simp only [hq0]; try rfl; done) | (simp only [← hq0]; try rfl; done) | rfl), (by first | (rw [hq0]; try rfl; done) | (rw [← hq0]; try rfl; done) | (simp only [hq0]; try rfl; done) | (simp only [← hq0]; try rfl; done) | rfl)⟩
 ·
  have eg1 : ¬ n ≥ 20 := of_decide_eq_false g1
  refine At.gn (some 6) (t := 5) rfl g1 rfl rfl ?_
  refine At.gn (some 7) (t := 5) rfl g1 rfl rfl ?_
  refine At.p (some 8) (P_pick_f rfl rfl g1 rfl) ?_
  refine At.p (some 2) (P_assign rfl rfl) ?_
  refine At.nil ?_
  refine At.next ?_
  refine At.ret ?_
  have hq0 : false = (kdOk n) := (by first | (simp [kdOk]; omega) | (simp [kdOk, *]; done) | (simp [kdOk, *]; omega))
  refine At.give (.inl rfl) [] (rows' := []) (vs := [_]) rfl ⟨rfl, trivial⟩ rfl (by simp) (by simp) ⟨(by first | (rw [hq0]; try rfl; done) | (rw [← hq0]; try rfl; done) | (simp only [hq0]; try rfl; done) | (simp only [← hq0]; try rfl; done) | rfl), (by first | (rw [hq0]; try rfl; done) | (rw [← hq0]; try rfl; done) | (simp only [hq0]; try rfl; done) | (simp only [← hq0]; try rfl; done) | rfl)⟩

set_option maxHeartbeats 2000000 in
theorem c_hd {t : Int} {n : Int}  :
  Con Tryd.prog 24 [iV t, iV n] [] (fun v rs => ∃ (A' : Option Addr) (b' c' : Nat), (0 < c' → A' = some ⟨b', 0, none⟩) ∧ (hdR t n).length ≤ c' ∧ v = .slice A' (hdR t n).length c' ∧ rs = [⟨true, b', 0, 5, (hdR t n).map u8V, c' - (hdR t n).length⟩]) := by
 refine Con.enter Tryd.func24 Tryd.ntmps24 (Nat.le_of_ble_eq_true rfl) rfl fun w => ?_
 refine At.seq ?_
 refine At.region ?_
 refine At.p (some 4) (P_assign rfl rfl) ?_
 refine At.nil ?_
 refine At.next ?_
 refine At.seq ?_
 refine At.region ?_
 refine At.p (some 5) (P_move rfl rfl) ?_
 refine At.p (some 6) (P_conv_iw UK.u8 rfl Tryd.underlying3 Tryd.underlying5 rfl) ?_
 refine At.p (some 7) (P_move rfl rfl) ?_
 refine At.p (some 8) (P_shr_i rfl rfl rfl (by first | decide | omega) (by first | decide | omega)) ?_
 refine At.p (some 9) (P_conv_iw UK.u8 rfl Tryd.underlying3 Tryd.underlying5 rfl) ?_
 refine At.p (some 10) (P_move rfl rfl) ?_
 refine At.p (some 11) (P_conv_iw UK.u8 rfl Tryd.underlying3 Tryd.underlying5 rfl) ?_
 refine At.s (S_buildSliceV (some 12) 12 (([(BitVec.ofInt 8 t), 3#8, 3#8, (BitVec.ofInt 8 (n / 2 ^ 8)), (BitVec.ofInt 8 n)]).map u8V) rfl Tryd.underlying36 sz5 ze5 rfl rfl (by decide) (by decide) rfl ⟨rfl, rfl, rfl, rfl, rfl⟩ (fun b12 => ?_))
 refine At.p (some 4) (P_assign rfl rfl) ?_
 refine At.nil ?_
 refine At.next ?_
 refine At.ret ?_
 have hq0 : [(BitVec.ofInt 8 t), 3#8, 3#8, (BitVec.ofInt 8 (n / 2 ^ 8)), (BitVec.ofInt 8 n)] = hdR t n := rfl
 refine At.give (.inl rfl) [12] (rows' := [_]) (vs := [_]) rfl ⟨rfl, trivial⟩ rfl (by simp) (by simp) ⟨(some ⟨b12, 0, none⟩), b12, 5, (fun _ => rfl), (by rw [← hq0]; first | omega | (simp; done) | (simp <;> omega) | exact Nat.le_refl _), (by first | (rw [hq0]; try rfl; done) | (rw [← hq0]; try rfl; done) | (simp only [hq0]; try rfl; done) | (simp only [← hq0]; try rfl; done) | rfl), (by first | (rw [hq0]; try rfl; done) | (rw [← hq0]; try rfl; done) | (simp only [hq0]; try rfl; done) | (simp only [← hq0]; try rfl; done) | rfl)⟩







end Go.Proofs.YtcjfkmhijfcciaaDoor

