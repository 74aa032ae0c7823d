import Derived.Test.YtihciioopdalnaaXT2
import Derived.Test.YtihciioopdalnaaXA1
import Derived.Test.YtihciioopdalnaaSE20
import Derived.Test.YtihciioopdalnaaSE25
import Derived.Test.YtihciioopdalnaaSE31
namespace Go.Proofs.Ytihciioopdalnaa
set_option maxRecDepth 20000
set_option linter.unusedVariables false
set_option linter.unusedSimpArgs false
open Go.SE Go.RowKit
/-! sealed snapshots -/
def beI (w : Nat) (n : Int) : List (BitVec 8) := (List.range w).map fun k => BitVec.ofInt 8 (n / 2 ^ (8 * (w - 1 - k)))
theorem beI_len (w : Nat) (n : Int) : (beI w n).length = w := by simp [beI]
theorem beI_succ {w k : Nat} {n : Int} (h : k < w) : (beI w n).take (k + 1) = (beI w n).take k ++ [BitVec.ofInt 8 (n / 2 ^ (8 * (w - 1 - k)))] := by
  rw [List.take_succ_eq_append_getElem (by rw [beI_len]; exact h)]
  simp [beI]
def nrB (c n g : Int) : Bool := decide (0 ≤ c ∧ c ≤ 2147483647 ∧ 0 ≤ n ∧ n ≤ 65535 ∧ 0 ≤ g ∧ g ≤ 2147483647)
theorem nrB_t {c n g : Int} (h : nrB c n g = true) : 0 ≤ c ∧ c ≤ 2147483647 ∧ 0 ≤ n ∧ n ≤ 65535 ∧ 0 ≤ g ∧ g ≤ 2147483647 := of_decide_eq_true h
theorem nrB_f {c n g : Int} (h : nrB c n g = false) : ¬ (0 ≤ c ∧ c ≤ 2147483647 ∧ 0 ≤ n ∧ n ≤ 65535 ∧ 0 ≤ g ∧ g ≤ 2147483647) := of_decide_eq_false h
def noteB (c n g : Int) : List (BitVec 8) := beI 4 c ++ beI 2 n ++ beI 4 g
theorem noteB_len (c n g : Int) : (noteB c n g).length = 10 := by simp [noteB, beI_len]
def nonceV (h : List (BitVec 8)) : List (BitVec 8) := [0#8, 0#8, 0#8, 0#8, 0#8, 0#8, 0#8, 0#8, h.getD 0 0#8, h.getD 1 0#8, h.getD 2 0#8, h.getD 3 0#8]
theorem nonceV_len (h : List (BitVec 8)) : (nonceV h).length = 12 := rfl
theorem nonce_eq {h : List (BitVec 8)} (hl : 4 ≤ h.length) : splice (List.replicate 12 0#8) 8 (h.take 4) = nonceV h := by
  match h, hl with
  | a :: b :: c :: d :: t, _ => rfl
def vsOk (c n g : Int) (b : List (BitVec 8)) : Bool := nrB c n g && decide (b.length ≤ 30000)
def vsT (key : List (BitVec 8)) (c n g : Int) (b : List (BitVec 8)) : List (BitVec 8) := if vsOk c n g b then noteB c n g ++ sealS key (nonceV (noteB c n g)) b (noteB c n g) else []
def vsE (c n g : Int) (b : List (BitVec 8)) : Int := if vsOk c n g b then 0 else 1
theorem vsT_t {key : List (BitVec 8)} {c n g : Int} {b : List (BitVec 8)} (h : vsOk c n g b = true) : vsT key c n g b = noteB c n g ++ sealS key (nonceV (noteB c n g)) b (noteB c n g) := by rw [vsT, if_pos h]
theorem vsT_f {key : List (BitVec 8)} {c n g : Int} {b : List (BitVec 8)} (h : vsOk c n g b = false) : vsT key c n g b = [] := by rw [vsT, h]; rfl
theorem vsE_t {c n g : Int} {b : List (BitVec 8)} (h : vsOk c n g b = true) : vsE c n g b = 0 := by rw [vsE, if_pos h]
theorem vsE_f {c n g : Int} {b : List (BitVec 8)} (h : vsOk c n g b = false) : vsE c n g b = 1 := by rw [vsE, h]; rfl
theorem vsOk_t {c n g : Int} {b : List (BitVec 8)} (h : nrB c n g = true) (hl : b.length ≤ 30000) : vsOk c n g b = true := by simp [vsOk, h, hl]
theorem vsOk_f {c n g : Int} {b : List (BitVec 8)} (h : nrB c n g = true → 30000 < b.length) : vsOk c n g b = false := by
  cases e : nrB c n g
  · simp [vsOk, e]
  · have := h e; simp [vsOk, e]; omega
/-- the number of bytes, the highest first -/
def beN : List (BitVec 8) → Nat → Nat
  | [], a => a
  | x :: l, a => beN l (a * 256 + x.toNat)
theorem beN_succ : ∀ (l : List (BitVec 8)) (k a : Nat), k < l.length → beN (l.take (k + 1)) a = beN (l.take k) a * 256 + (l.getD k 0#8).toNat
  | [], k, a, h => by simp at h
  | x :: l, 0, a, _ => by simp [beN]
  | x :: l, k + 1, a, h => by
    have := beN_succ l k (a * 256 + x.toNat) (by simpa using h)
    simpa [beN] using this
theorem beN_lt : ∀ (l : List (BitVec 8)) (a : Nat), beN l a < (a + 1) * 256 ^ l.length
  | [], a => by simp [beN]
  | x :: l, a => by
    have h := beN_lt l (a * 256 + x.toNat)
    have := x.isLt
    rw [beN, List.length_cons, Nat.pow_succ, Nat.mul_comm (256 ^ l.length), ← Nat.mul_assoc]
    exact Nat.lt_of_lt_of_le h (Nat.mul_le_mul_right _ (by omega))
def numI (b : List (BitVec 8)) (o w : Nat) : Int := (beN ((b.drop o).take w) 0 : Nat)
def rdE (b : List (BitVec 8)) : Int := if b.length < 26 then 2 else if 30026 < b.length then 3 else if nrB (numI b 0 4) (numI b 4 2) (numI b 6 4) then 0 else 3
def rdC (b : List (BitVec 8)) : Int := if rdE b = 0 then numI b 0 4 else 0
def rdN (b : List (BitVec 8)) : Int := if rdE b = 0 then numI b 4 2 else 0
def rdG (b : List (BitVec 8)) : Int := if rdE b = 0 then numI b 6 4 else 0
def opOk (key b : List (BitVec 8)) : Bool := decide (rdE b = 0) && openOk key (nonceV b) (b.drop 10) (b.take 10)
def opE (key b : List (BitVec 8)) : Int := if rdE b = 0 then (if openOk key (nonceV b) (b.drop 10) (b.take 10) then 0 else 4) else rdE b
def opT (key b : List (BitVec 8)) : List (BitVec 8) := if opOk key b then openT key (nonceV b) (b.drop 10) (b.take 10) else []
def opC (key b : List (BitVec 8)) : Int := if opOk key b then numI b 0 4 else 0
def opN (key b : List (BitVec 8)) : Int := if opOk key b then numI b 4 2 else 0
def opG (key b : List (BitVec 8)) : Int := if opOk key b then numI b 6 4 else 0
theorem note_lit (c n g : Int) : [BitVec.ofInt 8 (c / 2 ^ 24), BitVec.ofInt 8 (c / 2 ^ 16), BitVec.ofInt 8 (c / 2 ^ 8), BitVec.ofInt 8 c, BitVec.ofInt 8 (n / 2 ^ 8), BitVec.ofInt 8 n, BitVec.ofInt 8 (g / 2 ^ 24), BitVec.ofInt 8 (g / 2 ^ 16), BitVec.ofInt 8 (g / 2 ^ 8), BitVec.ofInt 8 g] = noteB c n g := by
  simp [noteB, beI, List.range_succ]
theorem beN_le4 {l : List (BitVec 8)} (h : l.length ≤ 4) : beN l 0 < 4294967296 := by
  have h1 := beN_lt l 0
  have h2 : 256 ^ l.length ≤ 256 ^ 4 := Nat.pow_le_pow_right (by decide) h
  omega
theorem beN_step {l : List (BitVec 8)} {w k : Nat} (h : k < w) (hl : w ≤ l.length) : beN ((l.take w).take (k + 1)) 0 = beN ((l.take w).take k) 0 * 256 + (l.getD k 0#8).toNat := by
  rw [beN_succ _ _ _ (by simp; omega)]
  congr 2
  simp [List.getD_eq_getElem?_getD, List.getElem?_take, h]
theorem shl8 {a : Nat} (h : a < 4294967296) : -9223372036854775808 ≤ (a : Int) * 2 ^ (8 : Int).toNat ∧ (a : Int) * 2 ^ (8 : Int).toNat ≤ 9223372036854775807 := by
  rw [show (2 : Int) ^ (8 : Int).toNat = 256 from rfl]; omega
theorem rd_short {b : List (BitVec 8)} (h : b.length < 26) : rdE b = 2 ∧ rdC b = 0 ∧ rdN b = 0 ∧ rdG b = 0 := by
  have e : rdE b = 2 := if_pos h
  exact ⟨e, by rw [rdC, e]; rfl, by rw [rdN, e]; rfl, by rw [rdG, e]; rfl⟩
theorem rd_long {b : List (BitVec 8)} (h : ¬ b.length < 26) (h2 : 30026 < b.length) : rdE b = 3 ∧ rdC b = 0 ∧ rdN b = 0 ∧ rdG b = 0 := by
  have e : rdE b = 3 := by rw [rdE, if_neg h, if_pos h2]
  exact ⟨e, by rw [rdC, e]; rfl, by rw [rdN, e]; rfl, by rw [rdG, e]; rfl⟩
theorem rd_bad {b : List (BitVec 8)} (h : ¬ b.length < 26) (h2 : ¬ 30026 < b.length) (h3 : nrB (numI b 0 4) (numI b 4 2) (numI b 6 4) = false) : rdE b = 3 ∧ rdC b = 0 ∧ rdN b = 0 ∧ rdG b = 0 := by
  have e : rdE b = 3 := by rw [rdE, if_neg h, if_neg h2, h3]; rfl
  exact ⟨e, by rw [rdC, e]; rfl, by rw [rdN, e]; rfl, by rw [rdG, e]; rfl⟩
theorem rd_ok {b : List (BitVec 8)} (h : ¬ b.length < 26) (h2 : ¬ 30026 < b.length) (h3 : nrB (numI b 0 4) (numI b 4 2) (numI b 6 4) = true) : rdE b = 0 ∧ rdC b = numI b 0 4 ∧ rdN b = numI b 4 2 ∧ rdG b = numI b 6 4 := by
  have e : rdE b = 0 := by rw [rdE, if_neg h, if_neg h2, if_pos h3]
  exact ⟨e, by rw [rdC, if_pos e], by rw [rdN, if_pos e], by rw [rdG, if_pos e]⟩
theorem op_rd {key b : List (BitVec 8)} (h : rdE b ≠ 0) : opE key b = rdE b ∧ opT key b = [] ∧ opC key b = 0 ∧ opN key b = 0 ∧ opG key b = 0 := by
  have e : opOk key b = false := by simp [opOk, h]
  exact ⟨by rw [opE, if_neg h], by rw [opT, e]; rfl, by rw [opC, e]; rfl, by rw [opN, e]; rfl, by rw [opG, e]; rfl⟩
theorem op_bad {key b : List (BitVec 8)} (h : rdE b = 0) (h2 : openOk key (nonceV b) (b.drop 10) (b.take 10) = false) : opE key b = 4 ∧ opT key b = [] ∧ opC key b = 0 ∧ opN key b = 0 ∧ opG key b = 0 := by
  have e : opOk key b = false := by simp [opOk, h2]
  exact ⟨by rw [opE, if_pos h, h2]; rfl, by rw [opT, e]; rfl, by rw [opC, e]; rfl, by rw [opN, e]; rfl, by rw [opG, e]; rfl⟩
theorem op_ok {key b : List (BitVec 8)} (h : rdE b = 0) (h2 : openOk key (nonceV b) (b.drop 10) (b.take 10) = true) : opE key b = 0 ∧ opT key b = openT key (nonceV b) (b.drop 10) (b.take 10) ∧ opC key b = numI b 0 4 ∧ opN key b = numI b 4 2 ∧ opG key b = numI b 6 4 := by
  have e : opOk key b = true := by simp [opOk, h, h2]
  exact ⟨by rw [opE, if_pos h, if_pos h2], by rw [opT, if_pos e], by rw [opC, if_pos e], by rw [opN, if_pos e], by rw [opG, if_pos e]⟩
theorem rd_nums {b : List (BitVec 8)} (h : rdE b = 0) : rdC b = numI b 0 4 ∧ rdN b = numI b 4 2 ∧ rdG b = numI b 6 4 := ⟨if_pos h, if_pos h, if_pos h⟩
theorem openE_f {key n b m : List (BitVec 8)} (h : openE key n b m ≠ 0) : openOk key n b m = false := by
  rw [← openE_ok]; simpa using h
theorem openE_t {key n b m : List (BitVec 8)} (h : openE key n b m = 0) : openOk key n b m = true := by
  rw [← openE_ok]; simpa using h
theorem rd_len {b : List (BitVec 8)} (h : rdE b = 0) : 26 ≤ b.length ∧ b.length ≤ 30026 := by
  unfold rdE at h
  split at h
  · cases h
  · split at h
    · cases h
    · omega
theorem take_num {b : List (BitVec 8)} {o w : Nat} (h : o + w ≤ b.length) (k : Nat) (hk : k ≤ w) : (beN (((b.drop o).take w).take k) 0 : Nat) = (match k with | 0 => 0 | k + 1 => beN (((b.drop o).take w).take k) 0 * 256 + (b.getD (o + k) 0#8).toNat) := by
  cases k with
  | zero => simp [beN]
  | succ k =>
    rw [beN_succ _ _ _ (by simp; omega)]
    congr 2
    simp [List.getD_eq_getElem?_getD, List.getElem?_take, show k < w by omega]
theorem num4 {b : List (BitVec 8)} {o : Nat} (h : o + 4 ≤ b.length) : numI b o 4 = ((b.getD o 0#8).toNat : Int) * 16777216 + ((b.getD (o + 1) 0#8).toNat : Int) * 65536 + ((b.getD (o + 2) 0#8).toNat : Int) * 256 + ((b.getD (o + 3) 0#8).toNat : Int) := by
  have a1 := take_num (w := 4) h 1 (by decide); have a2 := take_num (w := 4) h 2 (by decide); have a3 := take_num (w := 4) h 3 (by decide); have a4 := take_num (w := 4) h 4 (by decide)
  have e : ((b.drop o).take 4).take 4 = (b.drop o).take 4 := List.take_of_length_le (by simp; omega)
  simp only [List.take_zero, beN, e, Nat.zero_mul, Nat.zero_add, Nat.add_zero] at a1 a2 a3 a4
  unfold numI
  omega
theorem num2 {b : List (BitVec 8)} {o : Nat} (h : o + 2 ≤ b.length) : numI b o 2 = ((b.getD o 0#8).toNat : Int) * 256 + ((b.getD (o + 1) 0#8).toNat : Int) := by
  have a1 := take_num (w := 2) h 1 (by decide); have a2 := take_num (w := 2) h 2 (by decide)
  have e : ((b.drop o).take 2).take 2 = (b.drop o).take 2 := List.take_of_length_le (by simp; omega)
  simp only [List.take_zero, beN, e, Nat.zero_mul, Nat.zero_add, Nat.add_zero] at a1 a2
  unfold numI
  omega
theorem rd_3 {b : List (BitVec 8)} (h : ¬ b.length < 26) (h2 : 30026 < b.length ∨ 127 < (b.getD 0 0#8).toNat ∨ 127 < (b.getD 6 0#8).toNat) : rdE b ≠ 0 ∧ rdE b = 3 := by
  have e : rdE b = 3 := by
    by_cases h3 : 30026 < b.length
    · exact (rd_long h h3).1
    · refine (rd_bad h h3 ?_).1
      refine decide_eq_false ?_
      rw [num4 (o := 0) (by omega), num4 (o := 6) (by omega)]
      omega
  exact ⟨by rw [e]; decide, e⟩
theorem rd_0 {b : List (BitVec 8)} (h : ¬ b.length < 26) (h2 : ¬ 30026 < b.length) (h3 : (b.getD 0 0#8).toNat ≤ 127) (h4 : (b.getD 6 0#8).toNat ≤ 127) : rdE b = 0 := by
  refine (rd_ok h h2 ?_).1
  refine decide_eq_true ?_
  have i := fun k => (b.getD k 0#8).isLt
  have i0 := i 0; have i1 := i 1; have i2 := i 2; have i3 := i 3; have i4 := i 4; have i5 := i 5; have i6 := i 6; have i7 := i 7; have i8 := i 8; have i9 := i 9
  rw [num4 (o := 0) (by omega), num4 (o := 6) (by omega), num2 (o := 4) (by omega)]
  simp only [Nat.zero_add, Nat.reduceAdd] at *
  omega
theorem notT {x : Bool} (h : (!x) = true) : x = false := by cases x <;> simp_all
theorem notF {x : Bool} (h : (!x) = false) : x = true := by cases x <;> simp_all
theorem vsOk_nr {c n g : Int} {b : List (BitVec 8)} (h : vsOk c n g b = true) : nrB c n g = true := by
  cases e : nrB c n g
  · simp [vsOk, e] at h
  · rfl

attribute [local irreducible] sealS openT openE openOk aTag streamS

set_option maxHeartbeats 2000000 in
theorem c_BClone {b : List (BitVec 8)} {Ab : Option Addr} {nb cb bb qb : Nat} (hnb : b.length = nb) (hAb : 0 < nb → Ab = some ⟨bb, qb, none⟩) (hl : nb ≤ 1000000) :
    Con Try.prog 97 [.slice Ab nb cb] [pRow bb qb b] (fun v rs => ∃ (A' : Option Addr) (b' c' : Nat), (0 < c' → A' = some ⟨b', 0, none⟩) ∧ b.length ≤ c' ∧ v = .slice A' b.length c' ∧ rs = [⟨true, b', 0, 5, (b).map u8V, c' - (b).length⟩]) := by
  refine Con.enter Try.func97 Try.ntmps97 (Nat.le_of_ble_eq_true rfl) rfl fun w => ?_
  refine At.seq ?_
  refine At.region ?_
  refine At.p (some 2) (P_assign rfl rfl) ?_
  refine At.nil ?_
  refine At.next ?_
  refine At.seq ?_
  refine At.seq ?_
  refine At.region ?_
  refine At.p (some 3) (P_move rfl rfl) ?_
  refine At.p (some 4) (P_eql_slnil rfl Try.underlying22 rfl rfl) ?_
  refine At.nil ?_
  refine At.next ?_
  refine At.cond rfl (fun h4 => ?_) (fun h4 => ?_)
  · -- cond 4 t
    refine At.seq ?_
    refine At.region ?_
    refine At.p (some 2) (P_assign rfl rfl) ?_
    refine At.nil ?_
    refine At.next ?_
    refine At.ret ?_
    refine At.thn_r ?_
    refine At.empty 990 0 5 ?_
    have hq0 : ([] : List (BitVec 8)) = b := (by have h0 : nb = 0 := Nat.eq_zero_of_not_pos (fun h => by have h2 := hAb h; rw [h2] at h4; cases h4); exact (List.eq_nil_of_length_eq_zero (hnb.trans h0)).symm)
    refine At.give (.inl rfl) [990] (rows' := [_]) (vs := [_]) rfl ⟨rfl, trivial⟩ rfl (by simp) (by simp) ⟨none, 0, 0, (fun h => absurd h (Nat.lt_irrefl 0)), (by rw [← hq0]; exact Nat.le_refl _), (by first | (rw [hq0]; try rfl; done) | (rw [← hq0]; try rfl; done) | (simp only [hq0]; try rfl; done) | (simp only [← hq0]; try rfl; done) | rfl), (by first | (rw [hq0]; try rfl; done) | (rw [← hq0]; try rfl; done) | (simp only [hq0]; try rfl; done) | (simp only [← hq0]; try rfl; done) | rfl)⟩
  · -- cond 4 f
    refine At.skip ?_
    refine At.next ?_
    refine At.seq ?_
    refine At.region ?_
    refine At.s (S_buildSlice0 (some 5) 5 rfl Try.underlying22 sz5 (fun b5 => ?_))
    refine At.p (some 6) (P_move rfl rfl) ?_
    refine At.s (S_appendM (some 7) 5 (b) (f := u8V) (l := []) (L := b) (m := nb) rfl Try.underlying22 Try.underlying22 (.inr ⟨_, rfl⟩) sz5 by5 ze5 rfl rfl (fun h => ⟨rfl, rfl⟩) LN OG (Src.all (k := 0) (l := b) rfl hAb (fun _ => ⟨rfl, rfl, rfl⟩) LN) (fun _ => rfl) OG OG rfl LN ?_)
    intro A7 b7 c7 g7a g7b
    refine At.p (some 2) (P_assign rfl rfl) ?_
    refine At.nil ?_
    refine At.next ?_
    refine At.ret ?_
    refine At.give (.inl rfl) [5] (rows' := [_]) (vs := [_]) rfl ⟨rfl, trivial⟩ rfl (by simp) (by simp) ⟨A7, b7, c7, g7a, (by first | omega | (simp; done) | (simp <;> omega) | exact Nat.le_refl _), rfl, rfl⟩

set_option maxHeartbeats 2000000 in
theorem c_right4   :
    Con Try.prog 98 [iV 4] [] (fun v rs => v = .bool true ∧ rs = []) := by
  refine Con.enter Try.func98 Try.ntmps98 (Nat.le_of_ble_eq_true rfl) rfl fun w => ?_
  refine At.seq ?_
  refine At.region ?_
  refine At.p (some 2) (P_assign rfl rfl) ?_
  refine At.nil ?_
  refine At.next ?_
  refine At.seq ?_
  refine At.region ?_
  refine At.p (some 3) (P_move rfl rfl) ?_
  refine At.p (some 4) (P_cmp rfl rfl rfl rfl rfl rfl) ?_
  refine At.p (some 5) (P_move rfl rfl) ?_
  refine At.gy (t := 5) rfl (by decide) rfl rfl ?_
  refine At.p (some 6) (P_move rfl rfl) ?_
  refine At.gy (t := 5) rfl (by decide) rfl rfl ?_
  refine At.p (some 7) (P_cmp rfl rfl rfl rfl rfl rfl) ?_
  refine At.p (some 8) (P_pick_t rfl rfl (by decide) rfl) ?_
  refine At.p (some 2) (P_assign rfl rfl) ?_
  refine At.nil ?_
  refine At.next ?_
  refine At.ret ?_
  have hq0 : (decide (4 ≤ 4)) = true := rfl
  refine At.give (.inl rfl) [] (rows' := []) (vs := [_]) rfl ⟨rfl, trivial⟩ rfl (by simp) (by simp) ⟨(by first | (rw [hq0]; try rfl; done) | (rw [← hq0]; try rfl; done) | (simp only [hq0]; try rfl; done) | (simp only [← hq0]; try rfl; done) | rfl), (by first | (rw [hq0]; try rfl; done) | (rw [← hq0]; try rfl; done) | (simp only [hq0]; try rfl; done) | (simp only [← hq0]; try rfl; done) | rfl)⟩

set_option maxHeartbeats 2000000 in
theorem c_Put4 {b : List (BitVec 8)} {Ab : Option Addr} {nb cb bb qb : Nat} {n : Int} (hnb : b.length = nb) (hAb : 0 < nb → Ab = some ⟨bb, qb, none⟩) (hl : nb ≤ 1000000) (h0 : 0 ≤ n) (h1 : n < 4294967296) :
    Con Try.prog 91 [.slice Ab nb cb, iV n, iV 4] [pRow bb qb b] (fun v rs => ∃ (A' : Option Addr) (b' c' : Nat), (0 < c' → A' = some ⟨b', 0, none⟩) ∧ (b ++ beI 4 n).length ≤ c' ∧ v = .slice A' (b ++ beI 4 n).length c' ∧ rs = [⟨true, b', 0, 5, (b ++ beI 4 n).map u8V, c' - (b ++ beI 4 n).length⟩]) := by
  refine Con.enter Try.func91 Try.ntmps91 (Nat.le_of_ble_eq_true rfl) rfl fun w => ?_
  refine At.seq ?_
  refine At.region ?_
  refine At.p (some 6) (P_assign rfl rfl) ?_
  refine At.nil ?_
  refine At.next ?_
  refine At.seq ?_
  refine At.seq ?_
  refine At.region ?_
  refine At.p (some 9) (P_move rfl rfl) ?_
  refine At.s (S_callV (some 10) [] [] (vs := [_]) rfl en98 rfl V0 (by simp) (c_right4  ) (by rintro _ _ ⟨rfl, rfl⟩; rfl) ?_)
  rintro _ _ ⟨rfl, rfl⟩
  refine At.p (some 11) (P_not rfl rfl) ?_
  refine At.p (some 12) (P_move rfl rfl) ?_
  refine At.gy (t := 12) rfl rfl rfl rfl ?_
  refine At.p (some 13) (P_move rfl rfl) ?_
  refine At.gy (t := 12) rfl rfl rfl rfl ?_
  refine At.p (some 14) (P_cmp rfl rfl rfl rfl rfl rfl) ?_
  refine At.p (some 15) (P_pick_f rfl rfl rfl rfl) ?_
  refine At.p (some 16) (P_move rfl rfl) ?_
  refine At.gy (t := 16) rfl (by simp; omega) rfl rfl ?_
  refine At.p (some 17) (P_move rfl rfl) ?_
  refine At.gy (t := 16) rfl (by simp; omega) rfl rfl ?_
  refine At.p (some 18) (P_move rfl rfl) ?_
  refine At.gy (t := 16) rfl (by simp; omega) rfl rfl ?_
  refine At.p (some 19) (P_mul_i rfl rfl rfl (by omega)) ?_
  refine At.gy (t := 16) rfl (by simp; omega) rfl rfl ?_
  refine At.p (some 20) (P_shl_i rfl rfl rfl (by decide) (by decide) (by decide)) ?_
  refine At.gy (t := 16) rfl (by simp; omega) rfl rfl ?_
  refine At.p (some 21) (P_cmp rfl rfl rfl rfl rfl rfl) ?_
  refine At.p (some 22) (P_pick_f rfl rfl (by simp; omega) rfl) ?_
  refine At.nil ?_
  refine At.next ?_
  refine At.cond rfl (fun h22 => by simp at h22; omega) (fun h22 => ?_)
  have e22 : ¬ n ≥ 4294967296 := of_decide_eq_false h22
  refine At.skip ?_
  refine At.next ?_
  refine At.seq ?_
  refine At.region ?_
  refine At.p (some 23) (P_move rfl rfl) ?_
  refine At.s (S_callV (some 24) [(0, _)] [24] (vs := [_]) rfl en97 rfl (VN (by simp) rfl View.all V0) (by simp) (c_BClone (b := b) (nb := nb) (Ab := Ab) (cb := cb) (bb := bb) (qb := qb) LN hAb OG) (by rintro _ _ ⟨A24, b24, c24, g24a, g24b, rfl, rfl⟩; rfl) ?_)
  rintro _ _ ⟨A24, b24, c24, g24a, g24b, rfl, rfl⟩
  refine At.p (some 7) (P_assign rfl rfl) ?_
  refine At.nil ?_
  refine At.next ?_
  refine At.seq ?_
  refine At.seq ?_
  refine At.region ?_
  refine At.p (some 25) (P_move rfl rfl) ?_
  refine At.p (some 26) (P_sub_i rfl rfl rfl (by omega)) ?_
  refine At.p (some 8) (P_assign rfl rfl) ?_
  refine At.nil ?_
  refine At.next ?_
  refine At.block ?_
  refine At.loopx (I := fun m fr H => ∃ (k : Nat) (A7 : Option Addr) (b7 c7 : Nat), m = 4 - k ∧ fr = frOf [(0, .slice Ab nb cb), (1, iV n), (2, iV 4), (6, .slice none 0 0), (7, .slice A7 ((b ++ (beI 4 n).take k).length) c7), (8, iV (3 - (k : Int))), (9, iV 4), (10, .bool true), (11, .bool (!true)), (12, .bool (!true)), (13, iV n), (14, .bool (decide (n < 0))), (15, .bool (decide (n < 0))), (16, .bool (decide (n < 0))), (17, iV n), (18, iV 4), (19, iV (8 * 4)), (20, iV 4294967296), (21, .bool (decide (n ≥ 4294967296))), (22, .bool (decide (n ≥ 4294967296))), (23, .slice Ab nb cb), (24, .slice A24 b.length c24), (25, iV 4), (26, iV (4 - 1))] ∧ H = hOf [(0, pRow bb qb b), (24, ⟨true, b7, 0, 5, (b ++ (beI 4 n).take k).map u8V, c7 - (b ++ (beI 4 n).take k).length⟩)] ∧ (0 < c7 → A7 = some ⟨b7, 0, none⟩) ∧ ((b ++ (beI 4 n).take k).length ≤ c7) ∧ (k ≤ 4)) ?_ ?_
  · intro Kc0 hKc0
    refine At.to [(0, _), (1, _), (2, _), (6, _), (7, .slice A24 ((b ++ (beI 4 n).take 0).length) c24), (8, iV (3 - (0 : Int))), (9, _), (10, _), (11, _), (12, _), (13, _), (14, _), (15, _), (16, _), (17, _), (18, _), (19, _), (20, _), (21, _), (22, _), (23, _), (24, _), (25, _), (26, _)] [(0, _), (24, ⟨true, b24, 0, 5, (b ++ (beI 4 n).take 0).map u8V, c24 - (b ++ (beI 4 n).take 0).length⟩)] (AllL.cons_ (rfl) (AllL.cons_ (rfl) (AllL.cons_ (rfl) (AllL.cons_ (rfl) (AllL.cons_ ((by rw [List.take_zero, List.append_nil]; rfl)) (AllL.cons_ (rfl) (AllL.cons_ (rfl) (AllL.cons_ (rfl) (AllL.cons_ (rfl) (AllL.cons_ (rfl) (AllL.cons_ (rfl) (AllL.cons_ (rfl) (AllL.cons_ (rfl) (AllL.cons_ (rfl) (AllL.cons_ (rfl) (AllL.cons_ (rfl) (AllL.cons_ (rfl) (AllL.cons_ (rfl) (AllL.cons_ (rfl) (AllL.cons_ (rfl) (AllL.cons_ (rfl) (AllL.cons_ (rfl) (AllL.cons_ (rfl) (AllL.cons_ (rfl) trivial)))))))))))))))))))))))) (AllL.cons_ (rfl) (AllL.cons_ ((by rw [List.take_zero, List.append_nil]; rfl)) trivial)) ?_
    exact hKc0 _ _ _ ⟨0, A24, b24, c24, rfl, rfl, rfl, g24a, (by first | omega | (simp; done) | (simp <;> omega) | exact Nat.le_refl _), (by omega)⟩
  · rintro m fr H ⟨k, A7, b7, c7, rfl, rfl, rfl, g7a, g7b, hk⟩ Kc0 hKc0
    have hbl := beI_len 4 n
    refine At.seq ?_
    refine At.seq ?_
    refine At.region ?_
    refine At.p (some 27) (P_move rfl rfl) ?_
    refine At.p (some 28) (P_cmp rfl rfl rfl rfl rfl rfl) ?_
    refine At.nil ?_
    refine At.next ?_
    refine At.cond rfl (fun h28 => ?_) (fun h28 => ?_)
    · -- cond 28 t
      have e28 : (3 - (k : Int)) ≥ 0 := of_decide_eq_true h28
      refine At.skip ?_
      refine At.next ?_
      refine At.seq ?_
      refine At.block ?_
      refine At.region ?_
      refine At.p (some 31) (P_move rfl rfl) ?_
      refine At.p (some 32) (P_move rfl rfl) ?_
      refine At.p (some 33) (P_move rfl rfl) ?_
      refine At.p (some 34) (P_mul_i rfl rfl rfl (by omega)) ?_
      refine At.p (some 35) (P_shr_i rfl rfl rfl (by first | decide | omega) (by first | decide | omega)) ?_
      refine At.p (some 36) (P_conv_iw UK.u8 rfl Try.underlying3 Try.underlying5 rfl) ?_
      refine At.s (S_buildSliceV (some 37) 37 (([(BitVec.ofInt 8 (n / 2 ^ ((8 * (3 - (k : Int))) : Int).toNat))]).map u8V) rfl Try.underlying22 sz5 ze5 rfl rfl (by decide) (by decide) rfl rfl (fun b37 => ?_))
      refine At.s (S_appendM (some 38) 24 (b ++ (beI 4 n).take (k + 1)) (f := u8V) (l := (b ++ (beI 4 n).take k)) (L := [(BitVec.ofInt 8 (n / 2 ^ ((8 * (3 - (k : Int))) : Int).toNat))]) (m := 1) rfl Try.underlying22 Try.underlying22 (.inr ⟨_, rfl⟩) sz5 by5 ze5 rfl rfl (fun h => ⟨g7a h, rfl⟩) LN OG (Src.all (k := 37) (l := [(BitVec.ofInt 8 (n / 2 ^ ((8 * (3 - (k : Int))) : Int).toNat))]) rfl (fun _ => rfl) (fun _ => ⟨rfl, rfl, rfl⟩) LN) (fun _ => rfl) OG OG (by rw [beI_succ (by omega), show 8 * (4 - 1 - k) = (8 * (3 - (k : Int))).toNat by omega, List.append_assoc]) LN ?_)
      intro A38 b38 c38 g38a g38b
      refine At.p (some 7) (P_assign rfl rfl) ?_
      refine At.nil ?_
      refine At.inb_n ?_
      refine At.next ?_
      refine At.region ?_
      refine At.p (some 29) (P_move rfl rfl) ?_
      refine At.p (some 30) (P_sub_i rfl rfl rfl (by omega)) ?_
      refine At.p (some 8) (P_assign rfl rfl) ?_
      refine At.nil ?_
      refine At.next ?_
      refine At.to [(0, _), (1, _), (2, _), (6, _), (7, _), (8, iV (3 - ((k + 1) : Int))), (9, _), (10, _), (11, _), (12, _), (13, _), (14, _), (15, _), (16, _), (17, _), (18, _), (19, _), (20, _), (21, _), (22, _), (23, _), (24, _), (25, _), (26, _)] [(0, _), (24, _)] (AllL.cons_ (rfl) (AllL.cons_ (rfl) (AllL.cons_ (rfl) (AllL.cons_ (rfl) (AllL.cons_ (rfl) (AllL.cons_ ((congrArg (fun z : Int => some (iV z)) (show (3 - (k : Int) - 1) = 3 - ((k : Int) + 1) by omega))) (AllL.cons_ (rfl) (AllL.cons_ (rfl) (AllL.cons_ (rfl) (AllL.cons_ (rfl) (AllL.cons_ (rfl) (AllL.cons_ (rfl) (AllL.cons_ (rfl) (AllL.cons_ (rfl) (AllL.cons_ (rfl) (AllL.cons_ (rfl) (AllL.cons_ (rfl) (AllL.cons_ (rfl) (AllL.cons_ (rfl) (AllL.cons_ (rfl) (AllL.cons_ (rfl) (AllL.cons_ (rfl) (AllL.cons_ (rfl) (AllL.cons_ (rfl) trivial)))))))))))))))))))))))) (AllL.cons_ (rfl) (AllL.cons_ (rfl) trivial)) ?_
      exact hKc0 _ _ _ (by omega) ⟨k + 1, A38, b38, c38, rfl, rfl, rfl, g38a, (by first | omega | (simp; done) | (simp <;> omega) | exact Nat.le_refl _), (by omega)⟩
    · -- cond 28 f
      have e28 : ¬ (3 - (k : Int)) ≥ 0 := of_decide_eq_false h28
      refine At.exit ?_
      refine At.thn_e ?_
      refine At.thn_e ?_
      refine At.inb_hit ?_
      refine At.next ?_
      refine At.seq ?_
      refine At.region ?_
      refine At.p (some 39) (P_move rfl rfl) ?_
      refine At.p (some 6) (P_assign rfl rfl) ?_
      refine At.nil ?_
      refine At.next ?_
      refine At.ret ?_
      have hq0 : b ++ (beI 4 n).take k = b ++ beI 4 n := (by rw [show k = 4 by omega, List.take_of_length_le (Nat.le_of_eq (beI_len 4 n))])
      refine At.give (.inl rfl) [24] (rows' := [_]) (vs := [_]) rfl ⟨rfl, trivial⟩ rfl (by simp) (by simp) ⟨A7, b7, c7, g7a, (by rw [← hq0]; first | omega | (simp; done) | (simp <;> omega) | exact Nat.le_refl _), (by first | (rw [hq0]; try rfl; done) | (rw [← hq0]; try rfl; done) | (simp only [hq0]; try rfl; done) | (simp only [← hq0]; try rfl; done) | rfl), (by first | (rw [hq0]; try rfl; done) | (rw [← hq0]; try rfl; done) | (simp only [hq0]; try rfl; done) | (simp only [← hq0]; try rfl; done) | rfl)⟩

set_option maxHeartbeats 2000000 in
theorem c_right2   :
    Con Try.prog 98 [iV 2] [] (fun v rs => v = .bool true ∧ rs = []) := by
  refine Con.enter Try.func98 Try.ntmps98 (Nat.le_of_ble_eq_true rfl) rfl fun w => ?_
  refine At.seq ?_
  refine At.region ?_
  refine At.p (some 2) (P_assign rfl rfl) ?_
  refine At.nil ?_
  refine At.next ?_
  refine At.seq ?_
  refine At.region ?_
  refine At.p (some 3) (P_move rfl rfl) ?_
  refine At.p (some 4) (P_cmp rfl rfl rfl rfl rfl rfl) ?_
  refine At.p (some 5) (P_move rfl rfl) ?_
  refine At.gy (t := 5) rfl (by decide) rfl rfl ?_
  refine At.p (some 6) (P_move rfl rfl) ?_
  refine At.gy (t := 5) rfl (by decide) rfl rfl ?_
  refine At.p (some 7) (P_cmp rfl rfl rfl rfl rfl rfl) ?_
  refine At.p (some 8) (P_pick_t rfl rfl (by decide) rfl) ?_
  refine At.p (some 2) (P_assign rfl rfl) ?_
  refine At.nil ?_
  refine At.next ?_
  refine At.ret ?_
  have hq0 : (decide (2 ≤ 4)) = true := rfl
  refine At.give (.inl rfl) [] (rows' := []) (vs := [_]) rfl ⟨rfl, trivial⟩ rfl (by simp) (by simp) ⟨(by first | (rw [hq0]; try rfl; done) | (rw [← hq0]; try rfl; done) | (simp only [hq0]; try rfl; done) | (simp only [← hq0]; try rfl; done) | rfl), (by first | (rw [hq0]; try rfl; done) | (rw [← hq0]; try rfl; done) | (simp only [hq0]; try rfl; done) | (simp only [← hq0]; try rfl; done) | rfl)⟩

set_option maxHeartbeats 2000000 in
theorem c_Put2 {b : List (BitVec 8)} {Ab : Option Addr} {nb cb bb qb : Nat} {n : Int} (hnb : b.length = nb) (hAb : 0 < nb → Ab = some ⟨bb, qb, none⟩) (hl : nb ≤ 1000000) (h0 : 0 ≤ n) (h1 : n < 65536) :
    Con Try.prog 91 [.slice Ab nb cb, iV n, iV 2] [pRow bb qb b] (fun v rs => ∃ (A' : Option Addr) (b' c' : Nat), (0 < c' → A' = some ⟨b', 0, none⟩) ∧ (b ++ beI 2 n).length ≤ c' ∧ v = .slice A' (b ++ beI 2 n).length c' ∧ rs = [⟨true, b', 0, 5, (b ++ beI 2 n).map u8V, c' - (b ++ beI 2 n).length⟩]) := by
  refine Con.enter Try.func91 Try.ntmps91 (Nat.le_of_ble_eq_true rfl) rfl fun w => ?_
  refine At.seq ?_
  refine At.region ?_
  refine At.p (some 6) (P_assign rfl rfl) ?_
  refine At.nil ?_
  refine At.next ?_
  refine At.seq ?_
  refine At.seq ?_
  refine At.region ?_
  refine At.p (some 9) (P_move rfl rfl) ?_
  refine At.s (S_callV (some 10) [] [] (vs := [_]) rfl en98 rfl V0 (by simp) (c_right2  ) (by rintro _ _ ⟨rfl, rfl⟩; rfl) ?_)
  rintro _ _ ⟨rfl, rfl⟩
  refine At.p (some 11) (P_not rfl rfl) ?_
  refine At.p (some 12) (P_move rfl rfl) ?_
  refine At.gy (t := 12) rfl rfl rfl rfl ?_
  refine At.p (some 13) (P_move rfl rfl) ?_
  refine At.gy (t := 12) rfl rfl rfl rfl ?_
  refine At.p (some 14) (P_cmp rfl rfl rfl rfl rfl rfl) ?_
  refine At.p (some 15) (P_pick_f rfl rfl rfl rfl) ?_
  refine At.p (some 16) (P_move rfl rfl) ?_
  refine At.gy (t := 16) rfl (by simp; omega) rfl rfl ?_
  refine At.p (some 17) (P_move rfl rfl) ?_
  refine At.gy (t := 16) rfl (by simp; omega) rfl rfl ?_
  refine At.p (some 18) (P_move rfl rfl) ?_
  refine At.gy (t := 16) rfl (by simp; omega) rfl rfl ?_
  refine At.p (some 19) (P_mul_i rfl rfl rfl (by omega)) ?_
  refine At.gy (t := 16) rfl (by simp; omega) rfl rfl ?_
  refine At.p (some 20) (P_shl_i rfl rfl rfl (by decide) (by decide) (by decide)) ?_
  refine At.gy (t := 16) rfl (by simp; omega) rfl rfl ?_
  refine At.p (some 21) (P_cmp rfl rfl rfl rfl rfl rfl) ?_
  refine At.p (some 22) (P_pick_f rfl rfl (by simp; omega) rfl) ?_
  refine At.nil ?_
  refine At.next ?_
  refine At.cond rfl (fun h22 => by simp at h22; omega) (fun h22 => ?_)
  have e22 : ¬ n ≥ 65536 := of_decide_eq_false h22
  refine At.skip ?_
  refine At.next ?_
  refine At.seq ?_
  refine At.region ?_
  refine At.p (some 23) (P_move rfl rfl) ?_
  refine At.s (S_callV (some 24) [(0, _)] [24] (vs := [_]) rfl en97 rfl (VN (by simp) rfl View.all V0) (by simp) (c_BClone (b := b) (nb := nb) (Ab := Ab) (cb := cb) (bb := bb) (qb := qb) LN hAb OG) (by rintro _ _ ⟨A24, b24, c24, g24a, g24b, rfl, rfl⟩; rfl) ?_)
  rintro _ _ ⟨A24, b24, c24, g24a, g24b, rfl, rfl⟩
  refine At.p (some 7) (P_assign rfl rfl) ?_
  refine At.nil ?_
  refine At.next ?_
  refine At.seq ?_
  refine At.seq ?_
  refine At.region ?_
  refine At.p (some 25) (P_move rfl rfl) ?_
  refine At.p (some 26) (P_sub_i rfl rfl rfl (by omega)) ?_
  refine At.p (some 8) (P_assign rfl rfl) ?_
  refine At.nil ?_
  refine At.next ?_
  refine At.block ?_
  refine At.loopx (I := fun m fr H => ∃ (k : Nat) (A7 : Option Addr) (b7 c7 : Nat), m = 2 - k ∧ fr = frOf [(0, .slice Ab nb cb), (1, iV n), (2, iV 2), (6, .slice none 0 0), (7, .slice A7 ((b ++ (beI 2 n).take k).length) c7), (8, iV (1 - (k : Int))), (9, iV 2), (10, .bool true), (11, .bool (!true)), (12, .bool (!true)), (13, iV n), (14, .bool (decide (n < 0))), (15, .bool (decide (n < 0))), (16, .bool (decide (n < 0))), (17, iV n), (18, iV 2), (19, iV (8 * 2)), (20, iV 65536), (21, .bool (decide (n ≥ 65536))), (22, .bool (decide (n ≥ 65536))), (23, .slice Ab nb cb), (24, .slice A24 b.length c24), (25, iV 2), (26, iV (2 - 1))] ∧ H = hOf [(0, pRow bb qb b), (24, ⟨true, b7, 0, 5, (b ++ (beI 2 n).take k).map u8V, c7 - (b ++ (beI 2 n).take k).length⟩)] ∧ (0 < c7 → A7 = some ⟨b7, 0, none⟩) ∧ ((b ++ (beI 2 n).take k).length ≤ c7) ∧ (k ≤ 2)) ?_ ?_
  · intro Kc0 hKc0
    refine At.to [(0, _), (1, _), (2, _), (6, _), (7, .slice A24 ((b ++ (beI 2 n).take 0).length) c24), (8, iV (1 - (0 : Int))), (9, _), (10, _), (11, _), (12, _), (13, _), (14, _), (15, _), (16, _), (17, _), (18, _), (19, _), (20, _), (21, _), (22, _), (23, _), (24, _), (25, _), (26, _)] [(0, _), (24, ⟨true, b24, 0, 5, (b ++ (beI 2 n).take 0).map u8V, c24 - (b ++ (beI 2 n).take 0).length⟩)] (AllL.cons_ (rfl) (AllL.cons_ (rfl) (AllL.cons_ (rfl) (AllL.cons_ (rfl) (AllL.cons_ ((by rw [List.take_zero, List.append_nil]; rfl)) (AllL.cons_ (rfl) (AllL.cons_ (rfl) (AllL.cons_ (rfl) (AllL.cons_ (rfl) (AllL.cons_ (rfl) (AllL.cons_ (rfl) (AllL.cons_ (rfl) (AllL.cons_ (rfl) (AllL.cons_ (rfl) (AllL.cons_ (rfl) (AllL.cons_ (rfl) (AllL.cons_ (rfl) (AllL.cons_ (rfl) (AllL.cons_ (rfl) (AllL.cons_ (rfl) (AllL.cons_ (rfl) (AllL.cons_ (rfl) (AllL.cons_ (rfl) (AllL.cons_ (rfl) trivial)))))))))))))))))))))))) (AllL.cons_ (rfl) (AllL.cons_ ((by rw [List.take_zero, List.append_nil]; rfl)) trivial)) ?_
    exact hKc0 _ _ _ ⟨0, A24, b24, c24, rfl, rfl, rfl, g24a, (by first | omega | (simp; done) | (simp <;> omega) | exact Nat.le_refl _), (by omega)⟩
  · rintro m fr H ⟨k, A7, b7, c7, rfl, rfl, rfl, g7a, g7b, hk⟩ Kc0 hKc0
    have hbl := beI_len 2 n
    refine At.seq ?_
    refine At.seq ?_
    refine At.region ?_
    refine At.p (some 27) (P_move rfl rfl) ?_
    refine At.p (some 28) (P_cmp rfl rfl rfl rfl rfl rfl) ?_
    refine At.nil ?_
    refine At.next ?_
    refine At.cond rfl (fun h28 => ?_) (fun h28 => ?_)
    · -- cond 28 t
      have e28 : (1 - (k : Int)) ≥ 0 := of_decide_eq_true h28
      refine At.skip ?_
      refine At.next ?_
      refine At.seq ?_
      refine At.block ?_
      refine At.region ?_
      refine At.p (some 31) (P_move rfl rfl) ?_
      refine At.p (some 32) (P_move rfl rfl) ?_
      refine At.p (some 33) (P_move rfl rfl) ?_
      refine At.p (some 34) (P_mul_i rfl rfl rfl (by omega)) ?_
      refine At.p (some 35) (P_shr_i rfl rfl rfl (by first | decide | omega) (by first | decide | omega)) ?_
      refine At.p (some 36) (P_conv_iw UK.u8 rfl Try.underlying3 Try.underlying5 rfl) ?_
      refine At.s (S_buildSliceV (some 37) 37 (([(BitVec.ofInt 8 (n / 2 ^ ((8 * (1 - (k : Int))) : Int).toNat))]).map u8V) rfl Try.underlying22 sz5 ze5 rfl rfl (by decide) (by decide) rfl rfl (fun b37 => ?_))
      refine At.s (S_appendM (some 38) 24 (b ++ (beI 2 n).take (k + 1)) (f := u8V) (l := (b ++ (beI 2 n).take k)) (L := [(BitVec.ofInt 8 (n / 2 ^ ((8 * (1 - (k : Int))) : Int).toNat))]) (m := 1) rfl Try.underlying22 Try.underlying22 (.inr ⟨_, rfl⟩) sz5 by5 ze5 rfl rfl (fun h => ⟨g7a h, rfl⟩) LN OG (Src.all (k := 37) (l := [(BitVec.ofInt 8 (n / 2 ^ ((8 * (1 - (k : Int))) : Int).toNat))]) rfl (fun _ => rfl) (fun _ => ⟨rfl, rfl, rfl⟩) LN) (fun _ => rfl) OG OG (by rw [beI_succ (by omega), show 8 * (2 - 1 - k) = (8 * (1 - (k : Int))).toNat by omega, List.append_assoc]) LN ?_)
      intro A38 b38 c38 g38a g38b
      refine At.p (some 7) (P_assign rfl rfl) ?_
      refine At.nil ?_
      refine At.inb_n ?_
      refine At.next ?_
      refine At.region ?_
      refine At.p (some 29) (P_move rfl rfl) ?_
      refine At.p (some 30) (P_sub_i rfl rfl rfl (by omega)) ?_
      refine At.p (some 8) (P_assign rfl rfl) ?_
      refine At.nil ?_
      refine At.next ?_
      refine At.to [(0, _), (1, _), (2, _), (6, _), (7, _), (8, iV (1 - ((k + 1) : Int))), (9, _), (10, _), (11, _), (12, _), (13, _), (14, _), (15, _), (16, _), (17, _), (18, _), (19, _), (20, _), (21, _), (22, _), (23, _), (24, _), (25, _), (26, _)] [(0, _), (24, _)] (AllL.cons_ (rfl) (AllL.cons_ (rfl) (AllL.cons_ (rfl) (AllL.cons_ (rfl) (AllL.cons_ (rfl) (AllL.cons_ ((congrArg (fun z : Int => some (iV z)) (show (1 - (k : Int) - 1) = 1 - ((k : Int) + 1) by omega))) (AllL.cons_ (rfl) (AllL.cons_ (rfl) (AllL.cons_ (rfl) (AllL.cons_ (rfl) (AllL.cons_ (rfl) (AllL.cons_ (rfl) (AllL.cons_ (rfl) (AllL.cons_ (rfl) (AllL.cons_ (rfl) (AllL.cons_ (rfl) (AllL.cons_ (rfl) (AllL.cons_ (rfl) (AllL.cons_ (rfl) (AllL.cons_ (rfl) (AllL.cons_ (rfl) (AllL.cons_ (rfl) (AllL.cons_ (rfl) (AllL.cons_ (rfl) trivial)))))))))))))))))))))))) (AllL.cons_ (rfl) (AllL.cons_ (rfl) trivial)) ?_
      exact hKc0 _ _ _ (by omega) ⟨k + 1, A38, b38, c38, rfl, rfl, rfl, g38a, (by first | omega | (simp; done) | (simp <;> omega) | exact Nat.le_refl _), (by omega)⟩
    · -- cond 28 f
      have e28 : ¬ (1 - (k : Int)) ≥ 0 := of_decide_eq_false h28
      refine At.exit ?_
      refine At.thn_e ?_
      refine At.thn_e ?_
      refine At.inb_hit ?_
      refine At.next ?_
      refine At.seq ?_
      refine At.region ?_
      refine At.p (some 39) (P_move rfl rfl) ?_
      refine At.p (some 6) (P_assign rfl rfl) ?_
      refine At.nil ?_
      refine At.next ?_
      refine At.ret ?_
      have hq0 : b ++ (beI 2 n).take k = b ++ beI 2 n := (by rw [show k = 2 by omega, List.take_of_length_le (Nat.le_of_eq (beI_len 2 n))])
      refine At.give (.inl rfl) [24] (rows' := [_]) (vs := [_]) rfl ⟨rfl, trivial⟩ rfl (by simp) (by simp) ⟨A7, b7, c7, g7a, (by rw [← hq0]; first | omega | (simp; done) | (simp <;> omega) | exact Nat.le_refl _), (by first | (rw [hq0]; try rfl; done) | (rw [← hq0]; try rfl; done) | (simp only [hq0]; try rfl; done) | (simp only [← hq0]; try rfl; done) | rfl), (by first | (rw [hq0]; try rfl; done) | (rw [← hq0]; try rfl; done) | (simp only [hq0]; try rfl; done) | (simp only [← hq0]; try rfl; done) | rfl)⟩

set_option maxHeartbeats 2000000 in
theorem c_nright {c : Int} {n : Int} {g : Int}  :
    Con Try.prog 66 [.agg ([iV c, iV n, iV g]).toArray] [] (fun v rs => v = .bool (nrB c n g) ∧ rs = []) := by
  refine Con.enter Try.func66 Try.ntmps66 (Nat.le_of_ble_eq_true rfl) rfl fun w => ?_
  refine At.seq ?_
  refine At.region ?_
  refine At.s (S_box (some 1) 1 (zs := [iV c, iV n, iV g]) rfl rfl rfl (fun b1 => ?_))
  refine At.p (some 2) (P_assign rfl rfl) ?_
  refine At.nil ?_
  refine At.next ?_
  refine At.seq ?_
  refine At.region ?_
  refine At.p (some 4) (P_fieldAddr0 (off := 0) rfl Try.underlying78 rfl sz3 rfl rfl) ?_
  refine At.q (some 5) (Q_loadO (k := 1) rfl rfl Try.underlying3 rfl rfl rfl) ?_
  refine At.p (some 6) (P_cmp rfl rfl rfl rfl rfl rfl) ?_
  refine At.p (some 7) (P_move rfl rfl) ?_
  refine At.gsplit (t := 7) (want := true) rfl (fun g1 => ?_) (fun g1 => ?_)
  ·
    have eg1 : c ≥ 0 := of_decide_eq_true g1
    refine At.gy (t := 7) rfl g1 rfl rfl ?_
    refine At.p (some 8) (P_fieldAddr0 (off := 1) rfl Try.underlying78 rfl sz3 rfl rfl) ?_
    refine At.gy (t := 7) rfl g1 rfl rfl ?_
    refine At.q (some 9) (Q_loadO (k := 1) rfl rfl Try.underlying3 rfl rfl rfl) ?_
    refine At.gy (t := 7) rfl g1 rfl rfl ?_
    refine At.p (some 10) (P_cmp rfl rfl rfl rfl rfl rfl) ?_
    refine At.p (some 11) (P_pick_t rfl rfl g1 rfl) ?_
    refine At.p (some 12) (P_move rfl rfl) ?_
    refine At.gsplit (t := 12) (want := true) rfl (fun g2 => ?_) (fun g2 => ?_)
    ·
      have eg2 : n ≥ 0 := of_decide_eq_true g2
      refine At.gy (t := 12) rfl g2 rfl rfl ?_
      refine At.p (some 13) (P_fieldAddr0 (off := 2) rfl Try.underlying78 rfl sz3 rfl rfl) ?_
      refine At.gy (t := 12) rfl g2 rfl rfl ?_
      refine At.q (some 14) (Q_loadO (k := 1) rfl rfl Try.underlying3 rfl rfl rfl) ?_
      refine At.gy (t := 12) rfl g2 rfl rfl ?_
      refine At.p (some 15) (P_cmp rfl rfl rfl rfl rfl rfl) ?_
      refine At.p (some 16) (P_pick_t rfl rfl g2 rfl) ?_
      refine At.p (some 3) (P_assign rfl rfl) ?_
      refine At.nil ?_
      refine At.next ?_
      refine At.seq ?_
      refine At.region ?_
      refine At.p (some 17) (P_move rfl rfl) ?_
      refine At.p (some 18) (P_move rfl rfl) ?_
      refine At.gsplit (t := 18) (want := true) rfl (fun g3 => ?_) (fun g3 => ?_)
      ·
        have eg3 : g ≥ 0 := of_decide_eq_true g3
        refine At.gy (t := 18) rfl g3 rfl rfl ?_
        refine At.p (some 19) (P_fieldAddr0 (off := 0) rfl Try.underlying78 rfl sz3 rfl rfl) ?_
        refine At.gy (t := 18) rfl g3 rfl rfl ?_
        refine At.q (some 20) (Q_loadO (k := 1) rfl rfl Try.underlying3 rfl rfl rfl) ?_
        refine At.gy (t := 18) rfl g3 rfl rfl ?_
        refine At.p (some 21) (P_cmp rfl rfl rfl rfl rfl rfl) ?_
        refine At.p (some 22) (P_pick_t rfl rfl g3 rfl) ?_
        refine At.p (some 23) (P_move rfl rfl) ?_
        refine At.gsplit (t := 23) (want := true) rfl (fun g4 => ?_) (fun g4 => ?_)
        ·
          have eg4 : c ≤ 2147483647 := of_decide_eq_true g4
          refine At.gy (t := 23) rfl g4 rfl rfl ?_
          refine At.p (some 24) (P_fieldAddr0 (off := 1) rfl Try.underlying78 rfl sz3 rfl rfl) ?_
          refine At.gy (t := 23) rfl g4 rfl rfl ?_
          refine At.q (some 25) (Q_loadO (k := 1) rfl rfl Try.underlying3 rfl rfl rfl) ?_
          refine At.gy (t := 23) rfl g4 rfl rfl ?_
          refine At.p (some 26) (P_cmp rfl rfl rfl rfl rfl rfl) ?_
          refine At.p (some 27) (P_pick_t rfl rfl g4 rfl) ?_
          refine At.p (some 28) (P_move rfl rfl) ?_
          refine At.gsplit (t := 28) (want := true) rfl (fun g5 => ?_) (fun g5 => ?_)
          ·
            have eg5 : n ≤ 65535 := of_decide_eq_true g5
            refine At.gy (t := 28) rfl g5 rfl rfl ?_
            refine At.p (some 29) (P_fieldAddr0 (off := 2) rfl Try.underlying78 rfl sz3 rfl rfl) ?_
            refine At.gy (t := 28) rfl g5 rfl rfl ?_
            refine At.q (some 30) (Q_loadO (k := 1) rfl rfl Try.underlying3 rfl rfl rfl) ?_
            refine At.gy (t := 28) rfl g5 rfl rfl ?_
            refine At.p (some 31) (P_cmp rfl rfl rfl rfl rfl rfl) ?_
            refine At.p (some 32) (P_pick_t rfl rfl g5 rfl) ?_
            refine At.p (some 2) (P_assign rfl rfl) ?_
            refine At.nil ?_
            refine At.next ?_
            refine At.ret ?_
            have hq0 : (decide (g ≤ 2147483647)) = (nrB c n g) := (by first | (simp [nrB]; omega) | (simp [nrB, *]; done) | (simp [nrB, *]; omega))
            refine At.give (.inl rfl) [] (rows' := []) (vs := [_]) rfl ⟨rfl, trivial⟩ rfl (by simp) (by simp) ⟨(by first | (rw [hq0]; try rfl; done) | (rw [← hq0]; try rfl; done) | (simp only [hq0]; try rfl; done) | (simp only [← hq0]; try rfl; done) | rfl), (by first | (rw [hq0]; try rfl; done) | (rw [← hq0]; try rfl; done) | (simp only [hq0]; try rfl; done) | (simp only [← hq0]; try rfl; done) | rfl)⟩
          ·
            have eg5 : ¬ n ≤ 65535 := of_decide_eq_false g5
            refine At.gn (some 29) (t := 28) rfl g5 rfl rfl ?_
            refine At.gn (some 30) (t := 28) rfl g5 rfl rfl ?_
            refine At.gn (some 31) (t := 28) rfl g5 rfl rfl ?_
            refine At.p (some 32) (P_pick_f rfl rfl g5 rfl) ?_
            refine At.p (some 2) (P_assign rfl rfl) ?_
            refine At.nil ?_
            refine At.next ?_
            refine At.ret ?_
            have hq0 : false = (nrB c n g) := (by first | (simp [nrB]; omega) | (simp [nrB, *]; done) | (simp [nrB, *]; omega))
            refine At.give (.inl rfl) [] (rows' := []) (vs := [_]) rfl ⟨rfl, trivial⟩ rfl (by simp) (by simp) ⟨(by first | (rw [hq0]; try rfl; done) | (rw [← hq0]; try rfl; done) | (simp only [hq0]; try rfl; done) | (simp only [← hq0]; try rfl; done) | rfl), (by first | (rw [hq0]; try rfl; done) | (rw [← hq0]; try rfl; done) | (simp only [hq0]; try rfl; done) | (simp only [← hq0]; try rfl; done) | rfl)⟩
        ·
          have eg4 : ¬ c ≤ 2147483647 := of_decide_eq_false g4
          refine At.gn (some 24) (t := 23) rfl g4 rfl rfl ?_
          refine At.gn (some 25) (t := 23) rfl g4 rfl rfl ?_
          refine At.gn (some 26) (t := 23) rfl g4 rfl rfl ?_
          refine At.p (some 27) (P_pick_f rfl rfl g4 rfl) ?_
          refine At.p (some 28) (P_move rfl rfl) ?_
          refine At.gn (some 29) (t := 28) rfl rfl rfl rfl ?_
          refine At.gn (some 30) (t := 28) rfl rfl rfl rfl ?_
          refine At.gn (some 31) (t := 28) rfl rfl rfl rfl ?_
          refine At.p (some 32) (P_pick_f rfl rfl rfl rfl) ?_
          refine At.p (some 2) (P_assign rfl rfl) ?_
          refine At.nil ?_
          refine At.next ?_
          refine At.ret ?_
          have hq0 : false = (nrB c n g) := (by first | (simp [nrB]; omega) | (simp [nrB, *]; done) | (simp [nrB, *]; omega))
          refine At.give (.inl rfl) [] (rows' := []) (vs := [_]) rfl ⟨rfl, trivial⟩ rfl (by simp) (by simp) ⟨(by first | (rw [hq0]; try rfl; done) | (rw [← hq0]; try rfl; done) | (simp only [hq0]; try rfl; done) | (simp only [← hq0]; try rfl; done) | rfl), (by first | (rw [hq0]; try rfl; done) | (rw [← hq0]; try rfl; done) | (simp only [hq0]; try rfl; done) | (simp only [← hq0]; try rfl; done) | rfl)⟩
      ·
        have eg3 : ¬ g ≥ 0 := of_decide_eq_false g3
        refine At.gn (some 19) (t := 18) rfl g3 rfl rfl ?_
        refine At.gn (some 20) (t := 18) rfl g3 rfl rfl ?_
        refine At.gn (some 21) (t := 18) rfl g3 rfl rfl ?_
        refine At.p (some 22) (P_pick_f rfl rfl g3 rfl) ?_
        refine At.p (some 23) (P_move rfl rfl) ?_
        refine At.gn (some 24) (t := 23) rfl rfl rfl rfl ?_
        refine At.gn (some 25) (t := 23) rfl rfl rfl rfl ?_
        refine At.gn (some 26) (t := 23) rfl rfl rfl rfl ?_
        refine At.p (some 27) (P_pick_f rfl rfl rfl rfl) ?_
        refine At.p (some 28) (P_move rfl rfl) ?_
        refine At.gn (some 29) (t := 28) rfl rfl rfl rfl ?_
        refine At.gn (some 30) (t := 28) rfl rfl rfl rfl ?_
        refine At.gn (some 31) (t := 28) rfl rfl rfl rfl ?_
        refine At.p (some 32) (P_pick_f rfl rfl rfl rfl) ?_
        refine At.p (some 2) (P_assign rfl rfl) ?_
        refine At.nil ?_
        refine At.next ?_
        refine At.ret ?_
        have hq0 : false = (nrB c n g) := (by first | (simp [nrB]; omega) | (simp [nrB, *]; done) | (simp [nrB, *]; omega))
        refine At.give (.inl rfl) [] (rows' := []) (vs := [_]) rfl ⟨rfl, trivial⟩ rfl (by simp) (by simp) ⟨(by first | (rw [hq0]; try rfl; done) | (rw [← hq0]; try rfl; done) | (simp only [hq0]; try rfl; done) | (simp only [← hq0]; try rfl; done) | rfl), (by first | (rw [hq0]; try rfl; done) | (rw [← hq0]; try rfl; done) | (simp only [hq0]; try rfl; done) | (simp only [← hq0]; try rfl; done) | rfl)⟩
    ·
      have eg2 : ¬ n ≥ 0 := of_decide_eq_false g2
      refine At.gn (some 13) (t := 12) rfl g2 rfl rfl ?_
      refine At.gn (some 14) (t := 12) rfl g2 rfl rfl ?_
      refine At.gn (some 15) (t := 12) rfl g2 rfl rfl ?_
      refine At.p (some 16) (P_pick_f rfl rfl g2 rfl) ?_
      refine At.p (some 3) (P_assign rfl rfl) ?_
      refine At.nil ?_
      refine At.next ?_
      refine At.seq ?_
      refine At.region ?_
      refine At.p (some 17) (P_move rfl rfl) ?_
      refine At.p (some 18) (P_move rfl rfl) ?_
      refine At.gn (some 19) (t := 18) rfl rfl rfl rfl ?_
      refine At.gn (some 20) (t := 18) rfl rfl rfl rfl ?_
      refine At.gn (some 21) (t := 18) rfl rfl rfl rfl ?_
      refine At.p (some 22) (P_pick_f rfl rfl rfl rfl) ?_
      refine At.p (some 23) (P_move rfl rfl) ?_
      refine At.gn (some 24) (t := 23) rfl rfl rfl rfl ?_
      refine At.gn (some 25) (t := 23) rfl rfl rfl rfl ?_
      refine At.gn (some 26) (t := 23) rfl rfl rfl rfl ?_
      refine At.p (some 27) (P_pick_f rfl rfl rfl rfl) ?_
      refine At.p (some 28) (P_move rfl rfl) ?_
      refine At.gn (some 29) (t := 28) rfl rfl rfl rfl ?_
      refine At.gn (some 30) (t := 28) rfl rfl rfl rfl ?_
      refine At.gn (some 31) (t := 28) rfl rfl rfl rfl ?_
      refine At.p (some 32) (P_pick_f rfl rfl rfl rfl) ?_
      refine At.p (some 2) (P_assign rfl rfl) ?_
      refine At.nil ?_
      refine At.next ?_
      refine At.ret ?_
      have hq0 : false = (nrB c n g) := (by first | (simp [nrB]; omega) | (simp [nrB, *]; done) | (simp [nrB, *]; omega))
      refine At.give (.inl rfl) [] (rows' := []) (vs := [_]) rfl ⟨rfl, trivial⟩ rfl (by simp) (by simp) ⟨(by first | (rw [hq0]; try rfl; done) | (rw [← hq0]; try rfl; done) | (simp only [hq0]; try rfl; done) | (simp only [← hq0]; try rfl; done) | rfl), (by first | (rw [hq0]; try rfl; done) | (rw [← hq0]; try rfl; done) | (simp only [hq0]; try rfl; done) | (simp only [← hq0]; try rfl; done) | rfl)⟩
  ·
    have eg1 : ¬ c ≥ 0 := of_decide_eq_false g1
    refine At.gn (some 8) (t := 7) rfl g1 rfl rfl ?_
    refine At.gn (some 9) (t := 7) rfl g1 rfl rfl ?_
    refine At.gn (some 10) (t := 7) rfl g1 rfl rfl ?_
    refine At.p (some 11) (P_pick_f rfl rfl g1 rfl) ?_
    refine At.p (some 12) (P_move rfl rfl) ?_
    refine At.gn (some 13) (t := 12) rfl rfl rfl rfl ?_
    refine At.gn (some 14) (t := 12) rfl rfl rfl rfl ?_
    refine At.gn (some 15) (t := 12) rfl rfl rfl rfl ?_
    refine At.p (some 16) (P_pick_f rfl rfl rfl rfl) ?_
    refine At.p (some 3) (P_assign rfl rfl) ?_
    refine At.nil ?_
    refine At.next ?_
    refine At.seq ?_
    refine At.region ?_
    refine At.p (some 17) (P_move rfl rfl) ?_
    refine At.p (some 18) (P_move rfl rfl) ?_
    refine At.gn (some 19) (t := 18) rfl rfl rfl rfl ?_
    refine At.gn (some 20) (t := 18) rfl rfl rfl rfl ?_
    refine At.gn (some 21) (t := 18) rfl rfl rfl rfl ?_
    refine At.p (some 22) (P_pick_f rfl rfl rfl rfl) ?_
    refine At.p (some 23) (P_move rfl rfl) ?_
    refine At.gn (some 24) (t := 23) rfl rfl rfl rfl ?_
    refine At.gn (some 25) (t := 23) rfl rfl rfl rfl ?_
    refine At.gn (some 26) (t := 23) rfl rfl rfl rfl ?_
    refine At.p (some 27) (P_pick_f rfl rfl rfl rfl) ?_
    refine At.p (some 28) (P_move rfl rfl) ?_
    refine At.gn (some 29) (t := 28) rfl rfl rfl rfl ?_
    refine At.gn (some 30) (t := 28) rfl rfl rfl rfl ?_
    refine At.gn (some 31) (t := 28) rfl rfl rfl rfl ?_
    refine At.p (some 32) (P_pick_f rfl rfl rfl rfl) ?_
    refine At.p (some 2) (P_assign rfl rfl) ?_
    refine At.nil ?_
    refine At.next ?_
    refine At.ret ?_
    have hq0 : false = (nrB c n g) := (by first | (simp [nrB]; omega) | (simp [nrB, *]; done) | (simp [nrB, *]; omega))
    refine At.give (.inl rfl) [] (rows' := []) (vs := [_]) rfl ⟨rfl, trivial⟩ rfl (by simp) (by simp) ⟨(by first | (rw [hq0]; try rfl; done) | (rw [← hq0]; try rfl; done) | (simp only [hq0]; try rfl; done) | (simp only [← hq0]; try rfl; done) | rfl), (by first | (rw [hq0]; try rfl; done) | (rw [← hq0]; try rfl; done) | (simp only [hq0]; try rfl; done) | (simp only [← hq0]; try rfl; done) | rfl)⟩

set_option maxHeartbeats 2000000 in
theorem c_nbytes {c : Int} {n : Int} {g : Int} (hr : nrB c n g = true) :
    Con Try.prog 67 [.agg ([iV c, iV n, iV g]).toArray] [] (fun v rs => ∃ (A' : Option Addr) (b' c' : Nat), (0 < c' → A' = some ⟨b', 0, none⟩) ∧ (noteB c n g).length ≤ c' ∧ v = .slice A' (noteB c n g).length c' ∧ rs = [⟨true, b', 0, 5, (noteB c n g).map u8V, c' - (noteB c n g).length⟩]) := by
  refine Con.enter Try.func67 Try.ntmps67 (Nat.le_of_ble_eq_true rfl) rfl fun w => ?_
  refine At.seq ?_
  obtain ⟨r1, r2, r3, r4, r5, r6⟩ := nrB_t hr
  refine At.region ?_
  refine At.s (S_box (some 1) 1 (zs := [iV c, iV n, iV g]) rfl rfl rfl (fun b1 => ?_))
  refine At.p (some 2) (P_assign rfl rfl) ?_
  refine At.nil ?_
  refine At.next ?_
  refine At.seq ?_
  refine At.region ?_
  refine At.p (some 4) (P_fieldAddr0 (off := 0) rfl Try.underlying78 rfl sz3 rfl rfl) ?_
  refine At.q (some 5) (Q_loadO (k := 1) rfl rfl Try.underlying3 rfl rfl rfl) ?_
  refine At.s (S_callV (some 6) [(98, _)] [6] (vs := [_, _, _]) rfl en91 rfl (VE rfl rfl V0) (by simp) (c_Put4 (b := ([] : List (BitVec 8))) (nb := 0) (Ab := none) (cb := 0) (bb := 0) (qb := 0) (n := c) LN (fun h => absurd h (Nat.lt_irrefl 0)) OG OG OG) (by rintro _ _ ⟨A6, b6, c6, g6a, g6b, rfl, rfl⟩; rfl) ?_)
  rintro _ _ ⟨A6, b6, c6, g6a, g6b, rfl, rfl⟩
  have := beI_len 4 c
  refine At.p (some 3) (P_assign rfl rfl) ?_
  refine At.nil ?_
  refine At.next ?_
  refine At.seq ?_
  refine At.draws 6 [] [.q false [0, 1, 2, 4, 5], .e false 3] (by kernel_rfl) (by kernel_rfl) ?_
  refine At.wp (some 7) (P_move rfl rfl) ?_
  refine At.wp (some 8) (P_fieldAddr0 (off := 1) rfl Try.underlying78 rfl sz3 rfl rfl) ?_
  refine At.wq (some 9) (Q_loadO (k := 1) rfl rfl Try.underlying3 rfl rfl rfl) ?_
  refine At.wp (some 11) (P_fieldAddr0 (off := 2) rfl Try.underlying78 rfl sz3 rfl rfl) ?_
  refine At.wq (some 12) (Q_loadO (k := 1) rfl rfl Try.underlying3 rfl rfl rfl) ?_
  refine At.wqn ?_
  refine At.we ?_
  refine SStep.up (S_callV (some 10) [(6, _)] [10] (vs := [_, _, _]) rfl en91 rfl (VN (by simp) rfl View.all V0) (by simp) (c_Put2 (b := (([] : List (BitVec 8)) ++ beI 4 c)) (nb := ((([] : List (BitVec 8)) ++ beI 4 c).length)) (Ab := A6) (cb := c6) (bb := b6) (qb := 0) (n := n) LN (fun h => g6a (by omega)) OG OG OG) (by rintro _ _ ⟨A10, b10, c10, g10a, g10b, rfl, rfl⟩; rfl) ?_)
  rintro _ _ ⟨A10, b10, c10, g10a, g10b, rfl, rfl⟩
  have := beI_len 2 n
  refine At.wt rfl ?_
  refine At.s (S_callV (some 13) [(10, _)] [13] (vs := [_, _, _]) rfl en91 rfl (VN (by simp) rfl View.all V0) (by simp) (c_Put4 (b := ((([] : List (BitVec 8)) ++ beI 4 c) ++ beI 2 n)) (nb := (((([] : List (BitVec 8)) ++ beI 4 c) ++ beI 2 n).length)) (Ab := A10) (cb := c10) (bb := b10) (qb := 0) (n := g) LN (fun h => g10a (by omega)) OG OG OG) (by rintro _ _ ⟨A13, b13, c13, g13a, g13b, rfl, rfl⟩; rfl) ?_)
  rintro _ _ ⟨A13, b13, c13, g13a, g13b, rfl, rfl⟩
  have := beI_len 4 g
  refine At.p (some 2) (P_assign rfl rfl) ?_
  refine At.nil ?_
  refine At.next ?_
  refine At.ret ?_
  have hq0 : ((([] : List (BitVec 8)) ++ beI 4 c) ++ beI 2 n) ++ beI 4 g = noteB c n g := rfl
  refine At.give (.inl rfl) [13] (rows' := [_]) (vs := [_]) rfl ⟨rfl, trivial⟩ rfl (by simp) (by simp) ⟨A13, b13, c13, g13a, (by rw [← hq0]; first | omega | (simp; done) | (simp <;> omega) | exact Nat.le_refl _), (by first | (rw [hq0]; try rfl; done) | (rw [← hq0]; try rfl; done) | (simp only [hq0]; try rfl; done) | (simp only [← hq0]; try rfl; done) | rfl), (by first | (rw [hq0]; try rfl; done) | (rw [← hq0]; try rfl; done) | (simp only [hq0]; try rfl; done) | (simp only [← hq0]; try rfl; done) | rfl)⟩

set_option maxHeartbeats 2000000 in
theorem c_nonce {h : List (BitVec 8)} {Ah : Option Addr} {nh ch bh qh : Nat} (hnh : h.length = nh) (hAh : 0 < nh → Ah = some ⟨bh, qh, none⟩) (hch : nh ≤ ch) (hl : 4 ≤ nh) :
    Con Try.prog 69 [.slice Ah nh ch] [pRow bh qh h] (fun v rs => v = aggK (nonceV h) ∧ rs = []) := by
  refine Con.enter Try.func69 Try.ntmps69 (Nat.le_of_ble_eq_true rfl) rfl fun w => ?_
  refine At.seq ?_
  refine At.region ?_
  refine At.s (S_alloc (some 2) 2 (zs := (List.replicate 12 0#8).map u8V) rfl ze107 rfl (fun b2 => ?_))
  refine At.nil ?_
  refine At.next ?_
  refine At.seq ?_
  refine At.region ?_
  refine At.s (S_alloc (some 3) 3 (zs := (List.replicate 12 0#8).map u8V) rfl ze107 rfl (fun b3 => ?_))
  refine At.nil ?_
  refine At.next ?_
  refine At.seq ?_
  refine At.draws 3 [] [.q false [0, 1, 2]] (by kernel_rfl) (by kernel_rfl) ?_
  refine At.wp (some 4) (P_slice_arr1 (l := 8) (h := 12) (m := 12) rfl Try.underlying107 sz5 rfl ⟨_, _, rfl, rfl⟩ rfl rfl DO DO DO DO) ?_
  refine At.wp (some 5) (P_move rfl rfl) ?_
  refine At.wp (some 6) (P_slice_sl (l := 0) (h := 4) (m := ch) rfl Try.underlying22 sz5 rfl rfl ⟨_, _, rfl, rfl⟩ rfl DO DO DO) ?_
  refine At.wqn ?_
  refine At.wt rfl ?_
  refine At.s (S_copyM (some 7) 3 0 (j := 0) (m := (4 - 0)) (n := (min (4 - 0) 4)) (S := (List.replicate 12 0#8)) (L := ((h.take (4 - 0)).take (min (4 - 0) 4))) (p := 8) rfl Try.underlying22 sz5 rfl (fun h => (fun _ => rfl) OG) rfl rfl (fun h => (fun h => cut_zero (hAh (by omega))) OG) (fun _ => ⟨rfl, rfl, rfl⟩) (take_part (j := 0) (m := (4 - 0)) OG) OG LN (fun _ => rfl) OG ?_)
  have : (splice (List.replicate 12 0#8) 8 ((h.take (4 - 0)).take (min (4 - 0) 4))).length = 12 := (splice_length _ _ _ LN).trans LN
  refine At.nil ?_
  refine At.next ?_
  refine At.seq ?_
  refine At.region ?_
  refine At.q (some 8) (Q_loadA (k := 3) rfl rfl Try.underlying107 rfl sz107 LN rfl) ?_
  refine At.s (S_storeA none (k := 2) (vs := ((splice (List.replicate 12 0#8) 8 ((h.take (4 - 0)).take (min (4 - 0) 4)))).map u8V) rfl rfl rfl (by rw [sz107]; exact congrArg some LN) rfl (one_map (fun _ => rfl)) NG rfl LN ?_)
  refine At.nil ?_
  refine At.next ?_
  refine At.ret ?_
  have hq0 : ((splice (List.replicate 12 0#8) 8 ((h.take (4 - 0)).take (min (4 - 0) 4)))).map u8V = (nonceV h).map u8V := (by rw [show (h.take (4 - 0)).take (min (4 - 0) 4) = h.take 4 by rw [List.take_take]; rfl, nonce_eq (by omega)])
  refine At.giveV (.inl rfl) [] (rows' := []) (ResV.cellA (k := 2) rfl rfl Try.underlying107 rfl sz107 LN rfl) rfl (by simp) (by simp) ?_
  exact ⟨congrArg (fun z => Value.agg (List.toArray z)) hq0, rfl⟩

set_option maxHeartbeats 2000000 in
theorem c_VSeal {key : List (BitVec 8)} {c : Int} {n : Int} {g : Int} {b : List (BitVec 8)} {Ab : Option Addr} {nb cb bb qb : Nat} (hkey : key.length = 32) (hnb : b.length = nb) (hAb : 0 < nb → Ab = some ⟨bb, qb, none⟩) :
    Con Try.prog 43 [aggK key, .agg ([iV c, iV n, iV g]).toArray, .slice Ab nb cb] [pRow bb qb b] (fun v rs => ∃ (A' : Option Addr) (b' c' : Nat), (0 < c' → A' = some ⟨b', 0, none⟩) ∧ (vsT key c n g b).length ≤ c' ∧ v = .tuple #[.slice A' (vsT key c n g b).length c', iV (vsE c n g b)] ∧ rs = [⟨true, b', 0, 5, (vsT key c n g b).map u8V, c' - (vsT key c n g b).length⟩]) := by
  refine Con.enter Try.func43 Try.ntmps43 (Nat.le_of_ble_eq_true rfl) rfl fun w => ?_
  refine At.seq ?_
  refine At.region ?_
  refine At.s (S_box (some 3) 3 (zs := (key).map u8V) rfl rfl rfl (fun b3 => ?_))
  refine At.s (S_box (some 4) 4 (zs := [iV c, iV n, iV g]) rfl rfl rfl (fun b4 => ?_))
  refine At.p (some 6) (P_assign rfl rfl) ?_
  refine At.p (some 7) (P_assign rfl rfl) ?_
  refine At.nil ?_
  refine At.next ?_
  refine At.seq ?_
  refine At.seq ?_
  refine At.region ?_
  refine At.q (some 9) (Q_loadA (k := 4) rfl rfl Try.underlying78 rfl sz78 LN rfl) ?_
  refine At.s (S_callV (some 10) [] [] (vs := [_]) rfl en66 rfl V0 (by simp) (c_nright (c := c) (n := n) (g := g) ) (by rintro _ _ ⟨rfl, rfl⟩; rfl) ?_)
  rintro _ _ ⟨rfl, rfl⟩
  refine At.p (some 11) (P_not rfl rfl) ?_
  refine At.p (some 12) (P_move rfl rfl) ?_
  refine At.gsplit (t := 12) (want := false) rfl (fun g1 => ?_) (fun g1 => ?_)
  ·
    have eg1 : nrB c n g = true := (by first | (simp; done) | simpa using g1)
    refine At.gy (t := 12) rfl g1 rfl rfl ?_
    refine At.p (some 13) (P_move rfl rfl) ?_
    refine At.gy (t := 12) rfl g1 rfl rfl ?_
    refine At.p (some 14) (P_len_sl rfl rfl ⟨_, Try.underlying22⟩ rfl) ?_
    refine At.gy (t := 12) rfl g1 rfl rfl ?_
    refine At.p (some 15) (P_cmp rfl rfl rfl rfl rfl rfl) ?_
    refine At.p (some 16) (P_pick_f rfl rfl g1 rfl) ?_
    refine At.nil ?_
    refine At.next ?_
    refine At.cond rfl (fun h16 => ?_) (fun h16 => ?_)
    · -- cond 16 t
      have e16 : (nb : Int) > 30000 := of_decide_eq_true h16
      refine At.seq ?_
      refine At.region ?_
      refine At.p (some 6) (P_assign rfl rfl) ?_
      refine At.p (some 7) (P_assign rfl rfl) ?_
      refine At.nil ?_
      refine At.next ?_
      refine At.ret ?_
      refine At.thn_r ?_
      have hv : vsOk c n g b = false := vsOk_f (fun hr => by first | omega | simp_all)
      refine At.empty 990 0 5 ?_
      have hq0 : ([] : List (BitVec 8)) = vsT key c n g b := (by rw [vsT_f hv])
      have hq1 : (1 : Int) = vsE c n g b := (by rw [vsE_f hv])
      refine At.give (.inl rfl) [990] (rows' := [_]) (vs := [_, _]) rfl ⟨rfl, rfl, trivial⟩ rfl (by simp) (by simp) ⟨none, 0, 0, (fun h => absurd h (Nat.lt_irrefl 0)), (by rw [← hq0]; exact Nat.le_refl _), (by first | (rw [hq0, hq1]; try rfl; done) | (rw [← hq0, ← hq1]; try rfl; done) | (simp only [hq0, hq1]; try rfl; done) | (simp only [← hq0, ← hq1]; try rfl; done) | rfl), (by first | (rw [hq0, hq1]; try rfl; done) | (rw [← hq0, ← hq1]; try rfl; done) | (simp only [hq0, hq1]; try rfl; done) | (simp only [← hq0, ← hq1]; try rfl; done) | rfl)⟩
    · -- cond 16 f
      have e16 : ¬ (nb : Int) > 30000 := of_decide_eq_false h16
      refine At.skip ?_
      refine At.next ?_
      refine At.seq ?_
      refine At.region ?_
      refine At.q (some 17) (Q_loadA (k := 4) rfl rfl Try.underlying78 rfl sz78 LN rfl) ?_
      refine At.s (S_callV (some 18) [] [18] (vs := [_]) rfl en67 rfl V0 (by simp) (c_nbytes (c := c) (n := n) (g := g) (by assumption)) (by rintro _ _ ⟨A18, b18, c18, g18a, g18b, rfl, rfl⟩; rfl) ?_)
      rintro _ _ ⟨A18, b18, c18, g18a, g18b, rfl, rfl⟩
      have := noteB_len c n g
      refine At.p (some 8) (P_assign rfl rfl) ?_
      refine At.nil ?_
      refine At.next ?_
      refine At.seq ?_
      refine At.draws 7 [] [.q false [0, 1, 2, 3, 4, 5], .e false 6] (by kernel_rfl) (by kernel_rfl) ?_
      refine At.wp (some 19) (P_move rfl rfl) ?_
      refine At.wq (some 20) (Q_loadA (k := 3) rfl rfl Try.underlying23 rfl sz23 LN rfl) ?_
      refine At.wp (some 21) (P_move rfl rfl) ?_
      refine At.wcV (some 22) [(18, _)] (vs := [_]) rfl en69 rfl (VN (by simp) rfl View.all V0) (c_nonce (h := (noteB c n g)) (nh := ((noteB c n g).length)) (Ah := A18) (ch := c18) (bh := b18) (qh := 0) LN (fun h => g18a (by omega)) OG OG) ?_
      have := nonceV_len (noteB c n g)
      refine At.wp (some 23) (P_move rfl rfl) ?_
      refine At.wp (some 24) (P_move rfl rfl) ?_
      refine At.wqn ?_
      refine At.we ?_
      refine SStep.up (S_callV (some 25) [(0, _), (18, _)] [25] (vs := [_, _, _, _]) rfl en68 rfl (VN (by simp) rfl View.all (VN (by simp) rfl View.all V0)) (by simp) (c_SealN (key := key) (nonce := (nonceV (noteB c n g))) (b := b) (more := (noteB c n g)) (nb := nb) (nm := ((noteB c n g).length)) (A := Ab) (A2 := A18) (bq := bb) (q := qb) (br := b18) (r := 0) LN LN LN LN hAb (fun h => g18a (by omega)) OG OG) (by rintro _ _ ⟨A25, b25, c25, g25a, g25b, rfl, rfl⟩; rfl) ?_)
      rintro _ _ ⟨A25, b25, c25, g25a, g25b, rfl, rfl⟩
      have := sealS_len key (nonceV (noteB c n g)) b (noteB c n g)
      refine At.wt rfl ?_
      refine At.s (S_appendM (some 26) 18 ((noteB c n g ++ sealS key (nonceV (noteB c n g)) b (noteB c n g))) (f := u8V) (l := (noteB c n g)) (L := (sealS key (nonceV (noteB c n g)) b (noteB c n g))) (m := ((sealS key (nonceV (noteB c n g)) b (noteB c n g)).length)) rfl Try.underlying22 Try.underlying22 (.inr ⟨_, rfl⟩) sz5 by5 ze5 rfl rfl (fun h => ⟨g18a h, rfl⟩) LN OG (Src.all (k := 25) (l := (sealS key (nonceV (noteB c n g)) b (noteB c n g))) rfl (fun h => g25a (by omega)) (fun _ => ⟨rfl, rfl, rfl⟩) LN) (fun _ => rfl) OG OG rfl LN ?_)
      intro A26 b26 c26 g26a g26b
      refine At.p (some 6) (P_assign rfl rfl) ?_
      refine At.p (some 7) (P_assign rfl rfl) ?_
      refine At.nil ?_
      refine At.next ?_
      refine At.ret ?_
      have hv : vsOk c n g b = true := vsOk_t (by assumption) (by omega)
      have hq0 : (noteB c n g ++ sealS key (nonceV (noteB c n g)) b (noteB c n g)) = vsT key c n g b := (by rw [vsT_t hv])
      have hq1 : (0 : Int) = vsE c n g b := (by rw [vsE_t hv])
      refine At.give (.inl rfl) [18] (rows' := [_]) (vs := [_, _]) rfl ⟨rfl, rfl, trivial⟩ rfl (by simp) (by simp) ⟨A26, b26, c26, g26a, (by rw [← hq0]; first | omega | (simp; done) | (simp <;> omega) | exact Nat.le_refl _), (by first | (rw [hq0, hq1]; try rfl; done) | (rw [← hq0, ← hq1]; try rfl; done) | (simp only [hq0, hq1]; try rfl; done) | (simp only [← hq0, ← hq1]; try rfl; done) | rfl), (by first | (rw [hq0, hq1]; try rfl; done) | (rw [← hq0, ← hq1]; try rfl; done) | (simp only [hq0, hq1]; try rfl; done) | (simp only [← hq0, ← hq1]; try rfl; done) | rfl)⟩
  ·
    have eg1 : nrB c n g = false := (by first | (simp; done) | simpa using g1)
    refine At.gn (some 13) (t := 12) rfl g1 rfl rfl ?_
    refine At.gn (some 14) (t := 12) rfl g1 rfl rfl ?_
    refine At.gn (some 15) (t := 12) rfl g1 rfl rfl ?_
    refine At.p (some 16) (P_pick_t rfl rfl g1 rfl) ?_
    refine At.nil ?_
    refine At.next ?_
    refine At.cond rfl (fun _ => ?_) (fun h => absurd (h.symm.trans rfl) (by decide))
    refine At.seq ?_
    refine At.region ?_
    refine At.p (some 6) (P_assign rfl rfl) ?_
    refine At.p (some 7) (P_assign rfl rfl) ?_
    refine At.nil ?_
    refine At.next ?_
    refine At.ret ?_
    refine At.thn_r ?_
    have hv : vsOk c n g b = false := vsOk_f (fun hr => by first | omega | simp_all)
    refine At.empty 990 0 5 ?_
    have hq0 : ([] : List (BitVec 8)) = vsT key c n g b := (by rw [vsT_f hv])
    have hq1 : (1 : Int) = vsE c n g b := (by rw [vsE_f hv])
    refine At.give (.inl rfl) [990] (rows' := [_]) (vs := [_, _]) rfl ⟨rfl, rfl, trivial⟩ rfl (by simp) (by simp) ⟨none, 0, 0, (fun h => absurd h (Nat.lt_irrefl 0)), (by rw [← hq0]; exact Nat.le_refl _), (by first | (rw [hq0, hq1]; try rfl; done) | (rw [← hq0, ← hq1]; try rfl; done) | (simp only [hq0, hq1]; try rfl; done) | (simp only [← hq0, ← hq1]; try rfl; done) | rfl), (by first | (rw [hq0, hq1]; try rfl; done) | (rw [← hq0, ← hq1]; try rfl; done) | (simp only [hq0, hq1]; try rfl; done) | (simp only [← hq0, ← hq1]; try rfl; done) | rfl)⟩

set_option maxHeartbeats 2000000 in
theorem r_VSeal {key : List (BitVec 8)} {c : Int} {n : Int} {g : Int} {b : List (BitVec 8)} {Ab : Option Addr} {nb cb bb qb : Nat} (hkey : key.length = 32) (hnb : b.length = nb) (hAb : 0 < nb → Ab = some ⟨bb, qb, none⟩) :
    Con Try.prog 45 [aggK key, .agg ([iV c, iV n, iV g]).toArray, .slice Ab nb cb] [pRow bb qb b] (fun v rs => ∃ (A' : Option Addr) (b' c' : Nat), (0 < c' → A' = some ⟨b', 0, none⟩) ∧ (vsT key c n g b).length ≤ c' ∧ v = .tuple #[.slice A' (vsT key c n g b).length c', .bool (vsOk c n g b)] ∧ rs = [⟨true, b', 0, 5, (vsT key c n g b).map u8V, c' - (vsT key c n g b).length⟩]) := by
  refine Con.enter Try.func45 Try.ntmps45 (Nat.le_of_ble_eq_true rfl) rfl fun w => ?_
  refine At.seq ?_
  refine At.region ?_
  refine At.s (S_box (some 3) 3 (zs := (key).map u8V) rfl rfl rfl (fun b3 => ?_))
  refine At.s (S_box (some 4) 4 (zs := [iV c, iV n, iV g]) rfl rfl rfl (fun b4 => ?_))
  refine At.p (some 6) (P_assign rfl rfl) ?_
  refine At.p (some 7) (P_assign rfl rfl) ?_
  refine At.nil ?_
  refine At.next ?_
  refine At.seq ?_
  refine At.seq ?_
  refine At.region ?_
  refine At.p (some 12) (P_fieldAddr0 (off := 0) rfl Try.underlying75 rfl sz3 rfl rfl) ?_
  refine At.q (some 13) (Q_loadO (k := 4) rfl rfl Try.underlying3 rfl rfl rfl) ?_
  refine At.p (some 14) (P_cmp rfl rfl rfl rfl rfl rfl) ?_
  refine At.p (some 15) (P_move rfl rfl) ?_
  refine At.gsplit (t := 15) (want := false) rfl (fun g1 => ?_) (fun g1 => ?_)
  ·
    have eg1 : ¬ c < 0 := of_decide_eq_false g1
    refine At.gy (t := 15) rfl g1 rfl rfl ?_
    refine At.p (some 16) (P_fieldAddr0 (off := 0) rfl Try.underlying75 rfl sz3 rfl rfl) ?_
    refine At.gy (t := 15) rfl g1 rfl rfl ?_
    refine At.q (some 17) (Q_loadO (k := 4) rfl rfl Try.underlying3 rfl rfl rfl) ?_
    refine At.gy (t := 15) rfl g1 rfl rfl ?_
    refine At.p (some 18) (P_cmp rfl rfl rfl rfl rfl rfl) ?_
    refine At.p (some 19) (P_pick_f rfl rfl g1 rfl) ?_
    refine At.p (some 20) (P_move rfl rfl) ?_
    refine At.gsplit (t := 20) (want := false) rfl (fun g2 => ?_) (fun g2 => ?_)
    ·
      have eg2 : ¬ c > 2147483647 := of_decide_eq_false g2
      refine At.gy (t := 20) rfl g2 rfl rfl ?_
      refine At.p (some 21) (P_fieldAddr0 (off := 1) rfl Try.underlying75 rfl sz3 rfl rfl) ?_
      refine At.gy (t := 20) rfl g2 rfl rfl ?_
      refine At.q (some 22) (Q_loadO (k := 4) rfl rfl Try.underlying3 rfl rfl rfl) ?_
      refine At.gy (t := 20) rfl g2 rfl rfl ?_
      refine At.p (some 23) (P_cmp rfl rfl rfl rfl rfl rfl) ?_
      refine At.p (some 24) (P_pick_f rfl rfl g2 rfl) ?_
      refine At.p (some 25) (P_move rfl rfl) ?_
      refine At.gsplit (t := 25) (want := false) rfl (fun g3 => ?_) (fun g3 => ?_)
      ·
        have eg3 : ¬ n < 0 := of_decide_eq_false g3
        refine At.gy (t := 25) rfl g3 rfl rfl ?_
        refine At.p (some 26) (P_fieldAddr0 (off := 1) rfl Try.underlying75 rfl sz3 rfl rfl) ?_
        refine At.gy (t := 25) rfl g3 rfl rfl ?_
        refine At.q (some 27) (Q_loadO (k := 4) rfl rfl Try.underlying3 rfl rfl rfl) ?_
        refine At.gy (t := 25) rfl g3 rfl rfl ?_
        refine At.p (some 28) (P_cmp rfl rfl rfl rfl rfl rfl) ?_
        refine At.p (some 29) (P_pick_f rfl rfl g3 rfl) ?_
        refine At.p (some 30) (P_move rfl rfl) ?_
        refine At.gsplit (t := 30) (want := false) rfl (fun g4 => ?_) (fun g4 => ?_)
        ·
          have eg4 : ¬ n > 65535 := of_decide_eq_false g4
          refine At.gy (t := 30) rfl g4 rfl rfl ?_
          refine At.p (some 31) (P_fieldAddr0 (off := 2) rfl Try.underlying75 rfl sz3 rfl rfl) ?_
          refine At.gy (t := 30) rfl g4 rfl rfl ?_
          refine At.q (some 32) (Q_loadO (k := 4) rfl rfl Try.underlying3 rfl rfl rfl) ?_
          refine At.gy (t := 30) rfl g4 rfl rfl ?_
          refine At.p (some 33) (P_cmp rfl rfl rfl rfl rfl rfl) ?_
          refine At.p (some 34) (P_pick_f rfl rfl g4 rfl) ?_
          refine At.p (some 35) (P_move rfl rfl) ?_
          refine At.gsplit (t := 35) (want := false) rfl (fun g5 => ?_) (fun g5 => ?_)
          ·
            have eg5 : ¬ g < 0 := of_decide_eq_false g5
            refine At.gy (t := 35) rfl g5 rfl rfl ?_
            refine At.p (some 36) (P_fieldAddr0 (off := 2) rfl Try.underlying75 rfl sz3 rfl rfl) ?_
            refine At.gy (t := 35) rfl g5 rfl rfl ?_
            refine At.q (some 37) (Q_loadO (k := 4) rfl rfl Try.underlying3 rfl rfl rfl) ?_
            refine At.gy (t := 35) rfl g5 rfl rfl ?_
            refine At.p (some 38) (P_cmp rfl rfl rfl rfl rfl rfl) ?_
            refine At.p (some 39) (P_pick_f rfl rfl g5 rfl) ?_
            refine At.p (some 40) (P_move rfl rfl) ?_
            refine At.gsplit (t := 40) (want := false) rfl (fun g6 => ?_) (fun g6 => ?_)
            ·
              have eg6 : ¬ g > 2147483647 := of_decide_eq_false g6
              refine At.gy (t := 40) rfl g6 rfl rfl ?_
              refine At.p (some 41) (P_move rfl rfl) ?_
              refine At.gy (t := 40) rfl g6 rfl rfl ?_
              refine At.p (some 42) (P_len_sl rfl rfl ⟨_, Try.underlying22⟩ rfl) ?_
              refine At.gy (t := 40) rfl g6 rfl rfl ?_
              refine At.p (some 43) (P_cmp rfl rfl rfl rfl rfl rfl) ?_
              refine At.p (some 44) (P_pick_f rfl rfl g6 rfl) ?_
              refine At.nil ?_
              refine At.next ?_
              refine At.cond rfl (fun h44 => ?_) (fun h44 => ?_)
              · -- cond 44 t
                have e44 : (nb : Int) > 30000 := of_decide_eq_true h44
                refine At.seq ?_
                refine At.region ?_
                refine At.p (some 6) (P_assign rfl rfl) ?_
                refine At.p (some 7) (P_assign rfl rfl) ?_
                refine At.nil ?_
                refine At.next ?_
                refine At.ret ?_
                refine At.thn_r ?_
                have hv : vsOk c n g b = false := vsOk_f (fun hr => by have h9 := nrB_t hr; first | omega | (simp at *; omega))
                refine At.empty 990 0 5 ?_
                have hq0 : ([] : List (BitVec 8)) = vsT key c n g b := (by rw [vsT_f hv])
                have hq1 : false = (vsOk c n g b) := hv.symm
                refine At.give (.inl rfl) [990] (rows' := [_]) (vs := [_, _]) rfl ⟨rfl, rfl, trivial⟩ rfl (by simp) (by simp) ⟨none, 0, 0, (fun h => absurd h (Nat.lt_irrefl 0)), (by rw [← hq0]; exact Nat.le_refl _), (by first | (rw [hq0, hq1]; try rfl; done) | (rw [← hq0, ← hq1]; try rfl; done) | (simp only [hq0, hq1]; try rfl; done) | (simp only [← hq0, ← hq1]; try rfl; done) | rfl), (by first | (rw [hq0, hq1]; try rfl; done) | (rw [← hq0, ← hq1]; try rfl; done) | (simp only [hq0, hq1]; try rfl; done) | (simp only [← hq0, ← hq1]; try rfl; done) | rfl)⟩
              · -- cond 44 f
                have e44 : ¬ (nb : Int) > 30000 := of_decide_eq_false h44
                refine At.skip ?_
                refine At.next ?_
                refine At.seq ?_
                refine At.draws 5 [] [.q false [0, 1, 2, 3, 4]] (by kernel_rfl) (by kernel_rfl) ?_
                refine At.wp (some 45) (P_fieldAddr0 (off := 0) rfl Try.underlying75 rfl sz3 rfl rfl) ?_
                refine At.wq (some 46) (Q_loadO (k := 4) rfl rfl Try.underlying3 rfl rfl rfl) ?_
                refine At.wp (some 47) (P_fieldAddr0 (off := 2) rfl Try.underlying75 rfl sz3 rfl rfl) ?_
                refine At.wq (some 48) (Q_loadO (k := 4) rfl rfl Try.underlying3 rfl rfl rfl) ?_
                refine At.wp (some 8) (P_assign rfl rfl) ?_
                refine At.wqn ?_
                refine At.wt rfl ?_
                refine At.p (some 9) (P_assign rfl rfl) ?_
                refine At.nil ?_
                refine At.next ?_
                refine At.seq ?_
                have hnl := noteB_len c n g
                refine At.region ?_
                refine At.p (some 49) (P_move rfl rfl) ?_
                refine At.p (some 50) (P_shr_i rfl rfl rfl (by first | decide | omega) (by first | decide | omega)) ?_
                refine At.p (some 51) (P_conv_iw UK.u8 rfl Try.underlying3 Try.underlying5 rfl) ?_
                refine At.p (some 52) (P_move rfl rfl) ?_
                refine At.p (some 53) (P_shr_i rfl rfl rfl (by first | decide | omega) (by first | decide | omega)) ?_
                refine At.p (some 54) (P_conv_iw UK.u8 rfl Try.underlying3 Try.underlying5 rfl) ?_
                refine At.p (some 55) (P_move rfl rfl) ?_
                refine At.p (some 56) (P_shr_i rfl rfl rfl (by first | decide | omega) (by first | decide | omega)) ?_
                refine At.p (some 57) (P_conv_iw UK.u8 rfl Try.underlying3 Try.underlying5 rfl) ?_
                refine At.p (some 58) (P_move rfl rfl) ?_
                refine At.p (some 59) (P_conv_iw UK.u8 rfl Try.underlying3 Try.underlying5 rfl) ?_
                refine At.p (some 60) (P_fieldAddr0 (off := 1) rfl Try.underlying75 rfl sz3 rfl rfl) ?_
                refine At.q (some 61) (Q_loadO (k := 4) rfl rfl Try.underlying3 rfl rfl rfl) ?_
                refine At.p (some 62) (P_shr_i rfl rfl rfl (by first | decide | omega) (by first | decide | omega)) ?_
                refine At.p (some 63) (P_conv_iw UK.u8 rfl Try.underlying3 Try.underlying5 rfl) ?_
                refine At.p (some 64) (P_fieldAddr0 (off := 1) rfl Try.underlying75 rfl sz3 rfl rfl) ?_
                refine At.q (some 65) (Q_loadO (k := 4) rfl rfl Try.underlying3 rfl rfl rfl) ?_
                refine At.p (some 66) (P_conv_iw UK.u8 rfl Try.underlying3 Try.underlying5 rfl) ?_
                refine At.p (some 67) (P_move rfl rfl) ?_
                refine At.p (some 68) (P_shr_i rfl rfl rfl (by first | decide | omega) (by first | decide | omega)) ?_
                refine At.p (some 69) (P_conv_iw UK.u8 rfl Try.underlying3 Try.underlying5 rfl) ?_
                refine At.p (some 70) (P_move rfl rfl) ?_
                refine At.p (some 71) (P_shr_i rfl rfl rfl (by first | decide | omega) (by first | decide | omega)) ?_
                refine At.p (some 72) (P_conv_iw UK.u8 rfl Try.underlying3 Try.underlying5 rfl) ?_
                refine At.p (some 73) (P_move rfl rfl) ?_
                refine At.p (some 74) (P_shr_i rfl rfl rfl (by first | decide | omega) (by first | decide | omega)) ?_
                refine At.p (some 75) (P_conv_iw UK.u8 rfl Try.underlying3 Try.underlying5 rfl) ?_
                refine At.p (some 76) (P_move rfl rfl) ?_
                refine At.p (some 77) (P_conv_iw UK.u8 rfl Try.underlying3 Try.underlying5 rfl) ?_
                refine At.s (S_buildSliceV (some 78) 78 (([(BitVec.ofInt 8 (c / 2 ^ 24)), (BitVec.ofInt 8 (c / 2 ^ 16)), (BitVec.ofInt 8 (c / 2 ^ 8)), (BitVec.ofInt 8 c), (BitVec.ofInt 8 (n / 2 ^ 8)), (BitVec.ofInt 8 n), (BitVec.ofInt 8 (g / 2 ^ 24)), (BitVec.ofInt 8 (g / 2 ^ 16)), (BitVec.ofInt 8 (g / 2 ^ 8)), (BitVec.ofInt 8 g)]).map u8V) rfl Try.underlying22 sz5 ze5 rfl rfl (by decide) (by decide) rfl ⟨rfl, rfl, rfl, rfl, rfl, rfl, rfl, rfl, rfl, rfl⟩ (fun b78 => ?_))
                have q1 : [(BitVec.ofInt 8 (c / 2 ^ 24)), (BitVec.ofInt 8 (c / 2 ^ 16)), (BitVec.ofInt 8 (c / 2 ^ 8)), (BitVec.ofInt 8 c), (BitVec.ofInt 8 (n / 2 ^ 8)), (BitVec.ofInt 8 n), (BitVec.ofInt 8 (g / 2 ^ 24)), (BitVec.ofInt 8 (g / 2 ^ 16)), (BitVec.ofInt 8 (g / 2 ^ 8)), (BitVec.ofInt 8 g)] = noteB c n g := note_lit c n g
                rw [q1]
                refine At.p (some 10) (P_assign rfl rfl) ?_
                refine At.nil ?_
                refine At.next ?_
                refine At.seq ?_
                refine At.draws 14 [] [.q false [0, 1, 2, 3, 4, 5, 6, 7, 8, 9, 10, 11, 12], .e false 13] (by kernel_rfl) (by kernel_rfl) ?_
                refine At.wp (some 79) (P_move rfl rfl) ?_
                refine At.wp (some 80) (P_indexAddr_slz (b := b78) (j := 0) rfl Try.underlying22 sz5 rfl ((fun _ => rfl) OG) rfl rfl OG) ?_
                refine At.wq (some 81) (Q_loadM (k := 78) (f := u8V) (l := (noteB c n g)) (0#8) rfl rfl Try.underlying5 rfl rfl OG) ?_
                refine At.wp (some 82) (P_move rfl rfl) ?_
                refine At.wp (some 83) (P_indexAddr_slz (b := b78) (j := 1) rfl Try.underlying22 sz5 rfl ((fun _ => rfl) OG) rfl rfl OG) ?_
                refine At.wq (some 84) (Q_loadM (k := 78) (f := u8V) (l := (noteB c n g)) (0#8) rfl rfl Try.underlying5 rfl rfl OG) ?_
                refine At.wp (some 85) (P_move rfl rfl) ?_
                refine At.wp (some 86) (P_indexAddr_slz (b := b78) (j := 2) rfl Try.underlying22 sz5 rfl ((fun _ => rfl) OG) rfl rfl OG) ?_
                refine At.wq (some 87) (Q_loadM (k := 78) (f := u8V) (l := (noteB c n g)) (0#8) rfl rfl Try.underlying5 rfl rfl OG) ?_
                refine At.wp (some 88) (P_move rfl rfl) ?_
                refine At.wp (some 89) (P_indexAddr_slz (b := b78) (j := 3) rfl Try.underlying22 sz5 rfl ((fun _ => rfl) OG) rfl rfl OG) ?_
                refine At.wq (some 90) (Q_loadM (k := 78) (f := u8V) (l := (noteB c n g)) (0#8) rfl rfl Try.underlying5 rfl rfl OG) ?_
                refine At.wp (some 91) (P_build_arr (cs := (([0#8, 0#8, 0#8, 0#8, 0#8, 0#8, 0#8, 0#8, ((noteB c n g).getD 0 0#8), ((noteB c n g).getD 1 0#8), ((noteB c n g).getD 2 0#8), ((noteB c n g).getD 3 0#8)]).map u8V).toArray) (parts := _) (vs := [(8, _), (9, _), (10, _), (11, _)]) rfl Try.underlying107 sz5 ze107 rfl rfl) ?_
                refine At.wqn ?_
                refine At.we ?_
                refine S_alloc (some 11) 11 (zs := (List.replicate 12 0#8).map u8V) rfl ze107 rfl (fun b11 => ?_)
                refine At.wt rfl ?_
                refine At.s (S_storeA none (k := 11) (vs := ([0#8, 0#8, 0#8, 0#8, 0#8, 0#8, 0#8, 0#8, ((noteB c n g).getD 0 0#8), ((noteB c n g).getD 1 0#8), ((noteB c n g).getD 2 0#8), ((noteB c n g).getD 3 0#8)]).map u8V) rfl rfl rfl (by rw [sz107]; exact congrArg some LN) rfl (one_map (fun _ => rfl)) NG rfl LN ?_)
                refine At.nil ?_
                refine At.next ?_
                refine At.seq ?_
                have := sealS_len key [0#8, 0#8, 0#8, 0#8, 0#8, 0#8, 0#8, 0#8, ((noteB c n g).getD 0 0#8), ((noteB c n g).getD 1 0#8), ((noteB c n g).getD 2 0#8), ((noteB c n g).getD 3 0#8)] b (noteB c n g)
                refine At.bBruteG [2, 8] (fun fr H => ∃ (b92 : Nat) (A94 : Option Addr) (b94 c94 : Nat) (A99 : Option Addr) (b99 c99 : Nat) (A100 : Option Addr) (b100 c100 : Nat), fr = frOf [(6, .slice A100 (((noteB c n g) ++ sealS key [0#8, 0#8, 0#8, 0#8, 0#8, 0#8, 0#8, 0#8, ((noteB c n g).getD 0 0#8), ((noteB c n g).getD 1 0#8), ((noteB c n g).getD 2 0#8), ((noteB c n g).getD 3 0#8)] b (noteB c n g)).length) c100), (7, .bool true)] ∧ H = hOf [(92, ⟨true, b100, 0, 5, (((noteB c n g) ++ sealS key [0#8, 0#8, 0#8, 0#8, 0#8, 0#8, 0#8, 0#8, ((noteB c n g).getD 0 0#8), ((noteB c n g).getD 1 0#8), ((noteB c n g).getD 2 0#8), ((noteB c n g).getD 3 0#8)] b (noteB c n g))).map u8V, c100 - (((noteB c n g) ++ sealS key [0#8, 0#8, 0#8, 0#8, 0#8, 0#8, 0#8, 0#8, ((noteB c n g).getD 0 0#8), ((noteB c n g).getD 1 0#8), ((noteB c n g).getD 2 0#8), ((noteB c n g).getD 3 0#8)] b (noteB c n g))).length⟩)] ∧ (0 < c94 → A94 = some ⟨b94, 0, none⟩) ∧ ((noteB c n g).length ≤ c94) ∧ (0 < c99 → A99 = some ⟨b99, 0, none⟩) ∧ ((sealS key [0#8, 0#8, 0#8, 0#8, 0#8, 0#8, 0#8, 0#8, ((noteB c n g).getD 0 0#8), ((noteB c n g).getD 1 0#8), ((noteB c n g).getD 2 0#8), ((noteB c n g).getD 3 0#8)] b (noteB c n g)).length ≤ c99) ∧ (0 < c100 → A100 = some ⟨b100, 0, none⟩) ∧ (((noteB c n g) ++ sealS key [0#8, 0#8, 0#8, 0#8, 0#8, 0#8, 0#8, 0#8, ((noteB c n g).getD 0 0#8), ((noteB c n g).getD 1 0#8), ((noteB c n g).getD 2 0#8), ((noteB c n g).getD 3 0#8)] b (noteB c n g)).length ≤ c100) ∧ True) (by kernel_rfl) ?_ ?_
                · intro Kb hKb G hGi hGo
                  have hG6_0 (b92 : Nat) (A94 : Option Addr) (b94 c94 : Nat) (A99 : Option Addr) (b99 c99 : Nat) (A100 : Option Addr) (b100 c100 : Nat) (g94a : 0 < c94 → A94 = some ⟨b94, 0, none⟩) (g94b : (noteB c n g).length ≤ c94) (g99a : 0 < c99 → A99 = some ⟨b99, 0, none⟩) (g99b : (sealS key [0#8, 0#8, 0#8, 0#8, 0#8, 0#8, 0#8, 0#8, ((noteB c n g).getD 0 0#8), ((noteB c n g).getD 1 0#8), ((noteB c n g).getD 2 0#8), ((noteB c n g).getD 3 0#8)] b (noteB c n g)).length ≤ c99) (g100a : 0 < c100 → A100 = some ⟨b100, 0, none⟩) (g100b : ((noteB c n g) ++ sealS key [0#8, 0#8, 0#8, 0#8, 0#8, 0#8, 0#8, 0#8, ((noteB c n g).getD 0 0#8), ((noteB c n g).getD 1 0#8), ((noteB c n g).getD 2 0#8), ((noteB c n g).getD 3 0#8)] b (noteB c n g)).length ≤ c100) : G 0 #[true, true, true, true, true, true, true, true, true, true, true] (frOf [(6, .slice A100 (((noteB c n g) ++ sealS key [0#8, 0#8, 0#8, 0#8, 0#8, 0#8, 0#8, 0#8, ((noteB c n g).getD 0 0#8), ((noteB c n g).getD 1 0#8), ((noteB c n g).getD 2 0#8), ((noteB c n g).getD 3 0#8)] b (noteB c n g)).length) c100), (7, .bool true)]) (hOf [(92, ⟨true, b100, 0, 5, (((noteB c n g) ++ sealS key [0#8, 0#8, 0#8, 0#8, 0#8, 0#8, 0#8, 0#8, ((noteB c n g).getD 0 0#8), ((noteB c n g).getD 1 0#8), ((noteB c n g).getD 2 0#8), ((noteB c n g).getD 3 0#8)] b (noteB c n g))).map u8V, c100 - (((noteB c n g) ++ sealS key [0#8, 0#8, 0#8, 0#8, 0#8, 0#8, 0#8, 0#8, ((noteB c n g).getD 0 0#8), ((noteB c n g).getD 1 0#8), ((noteB c n g).getD 2 0#8), ((noteB c n g).getD 3 0#8)] b (noteB c n g))).length⟩)]) := by
                    refine hGo ?_
                    refine At.bEnd (by kernel_rfl) ?_
                    refine At.next ?_
                    exact hKb _ _ ⟨b92, A94, b94, c94, A99, b99, c99, A100, b100, c100, rfl, rfl, g94a, g94b, g99a, g99b, g100a, g100b, trivial⟩
                  have hG6_1 (b92 : Nat) (A94 : Option Addr) (b94 c94 : Nat) (A99 : Option Addr) (b99 c99 : Nat) (g94a : 0 < c94 → A94 = some ⟨b94, 0, none⟩) (g94b : (noteB c n g).length ≤ c94) (g99a : 0 < c99 → A99 = some ⟨b99, 0, none⟩) (g99b : (sealS key [0#8, 0#8, 0#8, 0#8, 0#8, 0#8, 0#8, 0#8, ((noteB c n g).getD 0 0#8), ((noteB c n g).getD 1 0#8), ((noteB c n g).getD 2 0#8), ((noteB c n g).getD 3 0#8)] b (noteB c n g)).length ≤ c99) : G 3 #[true, true, true, true, true, true, true, true, false, false, false] (frOf [(6, .slice none 0 0), (7, .bool false), (94, .slice A94 ((noteB c n g).length) c94), (99, .slice A99 ((sealS key [0#8, 0#8, 0#8, 0#8, 0#8, 0#8, 0#8, 0#8, ((noteB c n g).getD 0 0#8), ((noteB c n g).getD 1 0#8), ((noteB c n g).getD 2 0#8), ((noteB c n g).getD 3 0#8)] b (noteB c n g)).length) c99)]) (hOf [(92, ⟨true, b94, 0, 5, ((noteB c n g)).map u8V, c94 - ((noteB c n g)).length⟩), (99, ⟨true, b99, 0, 5, (sealS key [0#8, 0#8, 0#8, 0#8, 0#8, 0#8, 0#8, 0#8, ((noteB c n g).getD 0 0#8), ((noteB c n g).getD 1 0#8), ((noteB c n g).getD 2 0#8), ((noteB c n g).getD 3 0#8)] b (noteB c n g)).map u8V, c99 - (sealS key [0#8, 0#8, 0#8, 0#8, 0#8, 0#8, 0#8, 0#8, ((noteB c n g).getD 0 0#8), ((noteB c n g).getD 1 0#8), ((noteB c n g).getD 2 0#8), ((noteB c n g).getD 3 0#8)] b (noteB c n g)).length⟩)]) := by
                    refine hGo ?_
                    refine At.bStep [8] (by kernel_rfl) (by simp) ?_
                    refine At.bS true (by kernel_rfl) (S_appendM (some 100) 92 (((noteB c n g) ++ sealS key [0#8, 0#8, 0#8, 0#8, 0#8, 0#8, 0#8, 0#8, ((noteB c n g).getD 0 0#8), ((noteB c n g).getD 1 0#8), ((noteB c n g).getD 2 0#8), ((noteB c n g).getD 3 0#8)] b (noteB c n g))) (f := u8V) (l := (noteB c n g)) (L := (sealS key [0#8, 0#8, 0#8, 0#8, 0#8, 0#8, 0#8, 0#8, ((noteB c n g).getD 0 0#8), ((noteB c n g).getD 1 0#8), ((noteB c n g).getD 2 0#8), ((noteB c n g).getD 3 0#8)] b (noteB c n g))) (m := ((sealS key [0#8, 0#8, 0#8, 0#8, 0#8, 0#8, 0#8, 0#8, ((noteB c n g).getD 0 0#8), ((noteB c n g).getD 1 0#8), ((noteB c n g).getD 2 0#8), ((noteB c n g).getD 3 0#8)] b (noteB c n g)).length)) rfl Try.underlying22 Try.underlying22 (.inr ⟨_, rfl⟩) sz5 by5 ze5 rfl rfl (fun h => ⟨g94a h, rfl⟩) LN OG (Src.all (k := 99) (l := (sealS key [0#8, 0#8, 0#8, 0#8, 0#8, 0#8, 0#8, 0#8, ((noteB c n g).getD 0 0#8), ((noteB c n g).getD 1 0#8), ((noteB c n g).getD 2 0#8), ((noteB c n g).getD 3 0#8)] b (noteB c n g))) rfl (fun h => g99a (by omega)) (fun _ => ⟨rfl, rfl, rfl⟩) LN) (fun _ => rfl) OG OG rfl LN ?_)
                    intro A100 b100 c100 g100a g100b
                    refine At.bP  9 (some 6) (P_assign rfl rfl) (by kernel_rfl) (by kernel_rfl) ?_
                    refine At.bP  10 (some 7) (P_assign rfl rfl) (by kernel_rfl) (by kernel_rfl) ?_
                    refine At.to [(6, _), (7, _)] [(92, _)] (AllL.cons_ (rfl) (AllL.cons_ (rfl) trivial)) (AllL.cons_ (rfl) trivial) ?_
                    exact hGi (hG6_0 b92 A94 b94 c94 A99 b99 c99 A100 b100 c100 g94a g94b g99a g99b g100a g100b)
                  have hG6_2 (b92 : Nat) (A94 : Option Addr) (b94 c94 : Nat) (g94a : 0 < c94 → A94 = some ⟨b94, 0, none⟩) (g94b : (noteB c n g).length ≤ c94) : G 4 #[true, true, true, true, true, true, true, false, false, false, false] (frOf [(6, .slice none 0 0), (7, .bool false), (94, .slice A94 ((noteB c n g).length) c94), (95, aggK key), (96, aggK [0#8, 0#8, 0#8, 0#8, 0#8, 0#8, 0#8, 0#8, ((noteB c n g).getD 0 0#8), ((noteB c n g).getD 1 0#8), ((noteB c n g).getD 2 0#8), ((noteB c n g).getD 3 0#8)]), (97, .slice Ab nb cb), (98, .slice (some ⟨b78, 0, none⟩) 10 10)]) (hOf [(0, pRow bb qb b), (78, ⟨true, b78, 0, 5, ((noteB c n g)).map u8V, 0⟩), (92, ⟨true, b94, 0, 5, ((noteB c n g)).map u8V, c94 - ((noteB c n g)).length⟩)]) := by
                    refine hGo ?_
                    refine At.bStep [7] (by kernel_rfl) (by simp) ?_
                    refine At.bS false (by kernel_rfl) (S_callV (some 99) [(0, _), (78, _)] [99] (vs := [_, _, _, _]) rfl en70 rfl (VN (by simp) rfl View.all (VN (by simp) rfl View.all V0)) (by simp) (r_SealN (key := key) (nonce := [0#8, 0#8, 0#8, 0#8, 0#8, 0#8, 0#8, 0#8, ((noteB c n g).getD 0 0#8), ((noteB c n g).getD 1 0#8), ((noteB c n g).getD 2 0#8), ((noteB c n g).getD 3 0#8)]) (b := b) (more := (noteB c n g)) (nb := nb) (nm := 10) (A := Ab) (A2 := (some ⟨b78, 0, none⟩)) (bq := bb) (q := qb) (br := b78) (r := 0) LN LN LN LN hAb (fun _ => rfl) OG OG) (by rintro _ _ ⟨A99, b99, c99, g99a, g99b, rfl, rfl⟩; rfl) ?_)
                    rintro _ _ ⟨A99, b99, c99, g99a, g99b, rfl, rfl⟩
                    refine At.to [(6, _), (7, _), (94, _), (99, _)] [(92, _), (99, _)] (AllL.cons_ (rfl) (AllL.cons_ (rfl) (AllL.cons_ (rfl) (AllL.cons_ (rfl) trivial)))) (AllL.cons_ (rfl) (AllL.cons_ (rfl) trivial)) ?_
                    exact hGi (hG6_1 b92 A94 b94 c94 A99 b99 c99 g94a g94b g99a g99b)
                  have hG6_3 (b92 : Nat) (A94 : Option Addr) (b94 c94 : Nat) (g94a : 0 < c94 → A94 = some ⟨b94, 0, none⟩) (g94b : (noteB c n g).length ≤ c94) : G 5 #[true, true, true, true, false, true, true, false, false, false, false] (frOf [(6, .slice none 0 0), (7, .bool false), (11, ptr b11 0), (94, .slice A94 ((noteB c n g).length) c94), (95, aggK key), (97, .slice Ab nb cb), (98, .slice (some ⟨b78, 0, none⟩) 10 10)]) (hOf [(0, pRow bb qb b), (11, ⟨true, b11, 0, 107, ([0#8, 0#8, 0#8, 0#8, 0#8, 0#8, 0#8, 0#8, ((noteB c n g).getD 0 0#8), ((noteB c n g).getD 1 0#8), ((noteB c n g).getD 2 0#8), ((noteB c n g).getD 3 0#8)]).map u8V, 0⟩), (78, ⟨true, b78, 0, 5, ((noteB c n g)).map u8V, 0⟩), (92, ⟨true, b94, 0, 5, ((noteB c n g)).map u8V, c94 - ((noteB c n g)).length⟩)]) := by
                    refine hGo ?_
                    refine At.bStep [4] (by kernel_rfl) (by simp) ?_
                    refine At.bSQ (some 96) (Q_loadA (k := 11) rfl rfl Try.underlying107 rfl sz107 LN rfl) ?_
                    refine At.to [(6, _), (7, _), (94, _), (95, _), (96, _), (97, _), (98, _)] [(0, _), (78, _), (92, _)] (AllL.cons_ (rfl) (AllL.cons_ (rfl) (AllL.cons_ (rfl) (AllL.cons_ (rfl) (AllL.cons_ (rfl) (AllL.cons_ (rfl) (AllL.cons_ (rfl) trivial))))))) (AllL.cons_ (rfl) (AllL.cons_ (rfl) (AllL.cons_ (rfl) trivial))) ?_
                    exact hGi (hG6_2 b92 A94 b94 c94 g94a g94b)
                  have hG6_4 (b92 : Nat) (A94 : Option Addr) (b94 c94 : Nat) (g94a : 0 < c94 → A94 = some ⟨b94, 0, none⟩) (g94b : (noteB c n g).length ≤ c94) : G 5 #[true, true, true, false, true, true, true, false, false, false, false] (frOf [(3, ptr b3 0), (6, .slice none 0 0), (7, .bool false), (94, .slice A94 ((noteB c n g).length) c94), (96, aggK [0#8, 0#8, 0#8, 0#8, 0#8, 0#8, 0#8, 0#8, ((noteB c n g).getD 0 0#8), ((noteB c n g).getD 1 0#8), ((noteB c n g).getD 2 0#8), ((noteB c n g).getD 3 0#8)]), (97, .slice Ab nb cb), (98, .slice (some ⟨b78, 0, none⟩) 10 10)]) (hOf [(0, pRow bb qb b), (3, ⟨true, b3, 0, 23, (key).map u8V, 0⟩), (78, ⟨true, b78, 0, 5, ((noteB c n g)).map u8V, 0⟩), (92, ⟨true, b94, 0, 5, ((noteB c n g)).map u8V, c94 - ((noteB c n g)).length⟩)]) := by
                    refine hGo ?_
                    refine At.bStep [3] (by kernel_rfl) (by simp) ?_
                    refine At.bSQ (some 95) (Q_loadA (k := 3) rfl rfl Try.underlying23 rfl sz23 LN rfl) ?_
                    refine At.to [(6, _), (7, _), (94, _), (95, _), (96, _), (97, _), (98, _)] [(0, _), (78, _), (92, _)] (AllL.cons_ (rfl) (AllL.cons_ (rfl) (AllL.cons_ (rfl) (AllL.cons_ (rfl) (AllL.cons_ (rfl) (AllL.cons_ (rfl) (AllL.cons_ (rfl) trivial))))))) (AllL.cons_ (rfl) (AllL.cons_ (rfl) (AllL.cons_ (rfl) trivial))) ?_
                    exact hGi (hG6_2 b92 A94 b94 c94 g94a g94b)
                  have hG6_5 (b92 : Nat) : G 5 #[true, true, false, true, true, true, true, false, false, false, false] (frOf [(6, .slice none 0 0), (7, .bool false), (92, .slice (some ⟨b92, 0, none⟩) 0 0), (93, .slice (some ⟨b78, 0, none⟩) 10 10), (95, aggK key), (96, aggK [0#8, 0#8, 0#8, 0#8, 0#8, 0#8, 0#8, 0#8, ((noteB c n g).getD 0 0#8), ((noteB c n g).getD 1 0#8), ((noteB c n g).getD 2 0#8), ((noteB c n g).getD 3 0#8)]), (97, .slice Ab nb cb), (98, .slice (some ⟨b78, 0, none⟩) 10 10)]) (hOf [(0, pRow bb qb b), (78, ⟨true, b78, 0, 5, ((noteB c n g)).map u8V, 0⟩), (92, ⟨true, b92, 0, 5, ([]).map u8V, 0⟩)]) := by
                    refine hGo ?_
                    refine At.bStep [2] (by kernel_rfl) (by simp) ?_
                    refine At.bS true (by kernel_rfl) (S_appendM (some 94) 92 ((noteB c n g)) (f := u8V) (l := []) (L := (noteB c n g)) (m := 10) rfl Try.underlying22 Try.underlying22 (.inr ⟨_, rfl⟩) sz5 by5 ze5 rfl rfl (fun h => ⟨rfl, rfl⟩) LN OG (Src.all (k := 78) (l := (noteB c n g)) rfl (fun _ => rfl) (fun _ => ⟨rfl, rfl, rfl⟩) LN) (fun _ => rfl) OG OG rfl LN ?_)
                    intro A94 b94 c94 g94a g94b
                    refine At.to [(6, _), (7, _), (94, _), (95, _), (96, _), (97, _), (98, _)] [(0, _), (78, _), (92, _)] (AllL.cons_ (rfl) (AllL.cons_ (rfl) (AllL.cons_ (rfl) (AllL.cons_ (rfl) (AllL.cons_ (rfl) (AllL.cons_ (rfl) (AllL.cons_ (rfl) trivial))))))) (AllL.cons_ (rfl) (AllL.cons_ (rfl) (AllL.cons_ (rfl) trivial))) ?_
                    exact hGi (hG6_2 b92 A94 b94 c94 g94a g94b)
                  have hG6_6 (b92 : Nat) (A94 : Option Addr) (b94 c94 : Nat) (g94a : 0 < c94 → A94 = some ⟨b94, 0, none⟩) (g94b : (noteB c n g).length ≤ c94) : G 6 #[true, true, true, false, false, true, true, false, false, false, false] (frOf [(3, ptr b3 0), (6, .slice none 0 0), (7, .bool false), (11, ptr b11 0), (94, .slice A94 ((noteB c n g).length) c94), (97, .slice Ab nb cb), (98, .slice (some ⟨b78, 0, none⟩) 10 10)]) (hOf [(0, pRow bb qb b), (3, ⟨true, b3, 0, 23, (key).map u8V, 0⟩), (11, ⟨true, b11, 0, 107, ([0#8, 0#8, 0#8, 0#8, 0#8, 0#8, 0#8, 0#8, ((noteB c n g).getD 0 0#8), ((noteB c n g).getD 1 0#8), ((noteB c n g).getD 2 0#8), ((noteB c n g).getD 3 0#8)]).map u8V, 0⟩), (78, ⟨true, b78, 0, 5, ((noteB c n g)).map u8V, 0⟩), (92, ⟨true, b94, 0, 5, ((noteB c n g)).map u8V, c94 - ((noteB c n g)).length⟩)]) := by
                    refine hGo ?_
                    refine At.bStep [3, 4] (by kernel_rfl) (by simp) ?_
                    refine ⟨?_, ?_⟩
                    ·
                      refine At.bSQ (some 95) (Q_loadA (k := 3) rfl rfl Try.underlying23 rfl sz23 LN rfl) ?_
                      refine At.to [(6, _), (7, _), (11, _), (94, _), (95, _), (97, _), (98, _)] [(0, _), (11, _), (78, _), (92, _)] (AllL.cons_ (rfl) (AllL.cons_ (rfl) (AllL.cons_ (rfl) (AllL.cons_ (rfl) (AllL.cons_ (rfl) (AllL.cons_ (rfl) (AllL.cons_ (rfl) trivial))))))) (AllL.cons_ (rfl) (AllL.cons_ (rfl) (AllL.cons_ (rfl) (AllL.cons_ (rfl) trivial)))) ?_
                      exact hGi (hG6_3 b92 A94 b94 c94 g94a g94b)
                    ·
                      refine At.bSQ (some 96) (Q_loadA (k := 11) rfl rfl Try.underlying107 rfl sz107 LN rfl) ?_
                      refine At.to [(3, _), (6, _), (7, _), (94, _), (96, _), (97, _), (98, _)] [(0, _), (3, _), (78, _), (92, _)] (AllL.cons_ (rfl) (AllL.cons_ (rfl) (AllL.cons_ (rfl) (AllL.cons_ (rfl) (AllL.cons_ (rfl) (AllL.cons_ (rfl) (AllL.cons_ (rfl) trivial))))))) (AllL.cons_ (rfl) (AllL.cons_ (rfl) (AllL.cons_ (rfl) (AllL.cons_ (rfl) trivial)))) ?_
                      exact hGi (hG6_4 b92 A94 b94 c94 g94a g94b)
                  have hG6_7 (b92 : Nat) : G 6 #[true, true, false, true, false, true, true, false, false, false, false] (frOf [(6, .slice none 0 0), (7, .bool false), (11, ptr b11 0), (92, .slice (some ⟨b92, 0, none⟩) 0 0), (93, .slice (some ⟨b78, 0, none⟩) 10 10), (95, aggK key), (97, .slice Ab nb cb), (98, .slice (some ⟨b78, 0, none⟩) 10 10)]) (hOf [(0, pRow bb qb b), (11, ⟨true, b11, 0, 107, ([0#8, 0#8, 0#8, 0#8, 0#8, 0#8, 0#8, 0#8, ((noteB c n g).getD 0 0#8), ((noteB c n g).getD 1 0#8), ((noteB c n g).getD 2 0#8), ((noteB c n g).getD 3 0#8)]).map u8V, 0⟩), (78, ⟨true, b78, 0, 5, ((noteB c n g)).map u8V, 0⟩), (92, ⟨true, b92, 0, 5, ([]).map u8V, 0⟩)]) := by
                    refine hGo ?_
                    refine At.bStep [2, 4] (by kernel_rfl) (by simp) ?_
                    refine ⟨?_, ?_⟩
                    ·
                      refine At.bS true (by kernel_rfl) (S_appendM (some 94) 92 ((noteB c n g)) (f := u8V) (l := []) (L := (noteB c n g)) (m := 10) rfl Try.underlying22 Try.underlying22 (.inr ⟨_, rfl⟩) sz5 by5 ze5 rfl rfl (fun h => ⟨rfl, rfl⟩) LN OG (Src.all (k := 78) (l := (noteB c n g)) rfl (fun _ => rfl) (fun _ => ⟨rfl, rfl, rfl⟩) LN) (fun _ => rfl) OG OG rfl LN ?_)
                      intro A94 b94 c94 g94a g94b
                      refine At.to [(6, _), (7, _), (11, _), (94, _), (95, _), (97, _), (98, _)] [(0, _), (11, _), (78, _), (92, _)] (AllL.cons_ (rfl) (AllL.cons_ (rfl) (AllL.cons_ (rfl) (AllL.cons_ (rfl) (AllL.cons_ (rfl) (AllL.cons_ (rfl) (AllL.cons_ (rfl) trivial))))))) (AllL.cons_ (rfl) (AllL.cons_ (rfl) (AllL.cons_ (rfl) (AllL.cons_ (rfl) trivial)))) ?_
                      exact hGi (hG6_3 b92 A94 b94 c94 g94a g94b)
                    ·
                      refine At.bSQ (some 96) (Q_loadA (k := 11) rfl rfl Try.underlying107 rfl sz107 LN rfl) ?_
                      refine At.to [(6, _), (7, _), (92, _), (93, _), (95, _), (96, _), (97, _), (98, _)] [(0, _), (78, _), (92, _)] (AllL.cons_ (rfl) (AllL.cons_ (rfl) (AllL.cons_ (rfl) (AllL.cons_ (rfl) (AllL.cons_ (rfl) (AllL.cons_ (rfl) (AllL.cons_ (rfl) (AllL.cons_ (rfl) trivial)))))))) (AllL.cons_ (rfl) (AllL.cons_ (rfl) (AllL.cons_ (rfl) trivial))) ?_
                      exact hGi (hG6_5 b92)
                  have hG6_8 (b92 : Nat) : G 6 #[true, true, false, false, true, true, true, false, false, false, false] (frOf [(3, ptr b3 0), (6, .slice none 0 0), (7, .bool false), (92, .slice (some ⟨b92, 0, none⟩) 0 0), (93, .slice (some ⟨b78, 0, none⟩) 10 10), (96, aggK [0#8, 0#8, 0#8, 0#8, 0#8, 0#8, 0#8, 0#8, ((noteB c n g).getD 0 0#8), ((noteB c n g).getD 1 0#8), ((noteB c n g).getD 2 0#8), ((noteB c n g).getD 3 0#8)]), (97, .slice Ab nb cb), (98, .slice (some ⟨b78, 0, none⟩) 10 10)]) (hOf [(0, pRow bb qb b), (3, ⟨true, b3, 0, 23, (key).map u8V, 0⟩), (78, ⟨true, b78, 0, 5, ((noteB c n g)).map u8V, 0⟩), (92, ⟨true, b92, 0, 5, ([]).map u8V, 0⟩)]) := by
                    refine hGo ?_
                    refine At.bStep [2, 3] (by kernel_rfl) (by simp) ?_
                    refine ⟨?_, ?_⟩
                    ·
                      refine At.bS true (by kernel_rfl) (S_appendM (some 94) 92 ((noteB c n g)) (f := u8V) (l := []) (L := (noteB c n g)) (m := 10) rfl Try.underlying22 Try.underlying22 (.inr ⟨_, rfl⟩) sz5 by5 ze5 rfl rfl (fun h => ⟨rfl, rfl⟩) LN OG (Src.all (k := 78) (l := (noteB c n g)) rfl (fun _ => rfl) (fun _ => ⟨rfl, rfl, rfl⟩) LN) (fun _ => rfl) OG OG rfl LN ?_)
                      intro A94 b94 c94 g94a g94b
                      refine At.to [(3, _), (6, _), (7, _), (94, _), (96, _), (97, _), (98, _)] [(0, _), (3, _), (78, _), (92, _)] (AllL.cons_ (rfl) (AllL.cons_ (rfl) (AllL.cons_ (rfl) (AllL.cons_ (rfl) (AllL.cons_ (rfl) (AllL.cons_ (rfl) (AllL.cons_ (rfl) trivial))))))) (AllL.cons_ (rfl) (AllL.cons_ (rfl) (AllL.cons_ (rfl) (AllL.cons_ (rfl) trivial)))) ?_
                      exact hGi (hG6_4 b92 A94 b94 c94 g94a g94b)
                    ·
                      refine At.bSQ (some 95) (Q_loadA (k := 3) rfl rfl Try.underlying23 rfl sz23 LN rfl) ?_
                      refine At.to [(6, _), (7, _), (92, _), (93, _), (95, _), (96, _), (97, _), (98, _)] [(0, _), (78, _), (92, _)] (AllL.cons_ (rfl) (AllL.cons_ (rfl) (AllL.cons_ (rfl) (AllL.cons_ (rfl) (AllL.cons_ (rfl) (AllL.cons_ (rfl) (AllL.cons_ (rfl) (AllL.cons_ (rfl) trivial)))))))) (AllL.cons_ (rfl) (AllL.cons_ (rfl) (AllL.cons_ (rfl) trivial))) ?_
                      exact hGi (hG6_5 b92)
                  have hG6_9  : G 6 #[false, true, false, true, true, true, true, false, false, false, false] (frOf [(6, .slice none 0 0), (7, .bool false), (93, .slice (some ⟨b78, 0, none⟩) 10 10), (95, aggK key), (96, aggK [0#8, 0#8, 0#8, 0#8, 0#8, 0#8, 0#8, 0#8, ((noteB c n g).getD 0 0#8), ((noteB c n g).getD 1 0#8), ((noteB c n g).getD 2 0#8), ((noteB c n g).getD 3 0#8)]), (97, .slice Ab nb cb), (98, .slice (some ⟨b78, 0, none⟩) 10 10)]) (hOf [(0, pRow bb qb b), (78, ⟨true, b78, 0, 5, ((noteB c n g)).map u8V, 0⟩)]) := by
                    refine hGo ?_
                    refine At.bStep [0] (by kernel_rfl) (by simp) ?_
                    refine At.bS false (by kernel_rfl) (S_buildSlice0 (some 92) 92 rfl Try.underlying22 sz5 (fun b92 => ?_))
                    refine At.to [(6, _), (7, _), (92, _), (93, _), (95, _), (96, _), (97, _), (98, _)] [(0, _), (78, _), (92, _)] (AllL.cons_ (rfl) (AllL.cons_ (rfl) (AllL.cons_ (rfl) (AllL.cons_ (rfl) (AllL.cons_ (rfl) (AllL.cons_ (rfl) (AllL.cons_ (rfl) (AllL.cons_ (rfl) trivial)))))))) (AllL.cons_ (rfl) (AllL.cons_ (rfl) (AllL.cons_ (rfl) trivial))) ?_
                    exact hGi (hG6_5 b92)
                  have hG6_10 (b92 : Nat) : G 7 #[true, true, false, false, false, true, true, false, false, false, false] (frOf [(3, ptr b3 0), (6, .slice none 0 0), (7, .bool false), (11, ptr b11 0), (92, .slice (some ⟨b92, 0, none⟩) 0 0), (93, .slice (some ⟨b78, 0, none⟩) 10 10), (97, .slice Ab nb cb), (98, .slice (some ⟨b78, 0, none⟩) 10 10)]) (hOf [(0, pRow bb qb b), (3, ⟨true, b3, 0, 23, (key).map u8V, 0⟩), (11, ⟨true, b11, 0, 107, ([0#8, 0#8, 0#8, 0#8, 0#8, 0#8, 0#8, 0#8, ((noteB c n g).getD 0 0#8), ((noteB c n g).getD 1 0#8), ((noteB c n g).getD 2 0#8), ((noteB c n g).getD 3 0#8)]).map u8V, 0⟩), (78, ⟨true, b78, 0, 5, ((noteB c n g)).map u8V, 0⟩), (92, ⟨true, b92, 0, 5, ([]).map u8V, 0⟩)]) := by
                    refine hGo ?_
                    refine At.bStep [2, 3, 4] (by kernel_rfl) (by simp) ?_
                    refine ⟨?_, ?_, ?_⟩
                    ·
                      refine At.bS true (by kernel_rfl) (S_appendM (some 94) 92 ((noteB c n g)) (f := u8V) (l := []) (L := (noteB c n g)) (m := 10) rfl Try.underlying22 Try.underlying22 (.inr ⟨_, rfl⟩) sz5 by5 ze5 rfl rfl (fun h => ⟨rfl, rfl⟩) LN OG (Src.all (k := 78) (l := (noteB c n g)) rfl (fun _ => rfl) (fun _ => ⟨rfl, rfl, rfl⟩) LN) (fun _ => rfl) OG OG rfl LN ?_)
                      intro A94 b94 c94 g94a g94b
                      refine At.to [(3, _), (6, _), (7, _), (11, _), (94, _), (97, _), (98, _)] [(0, _), (3, _), (11, _), (78, _), (92, _)] (AllL.cons_ (rfl) (AllL.cons_ (rfl) (AllL.cons_ (rfl) (AllL.cons_ (rfl) (AllL.cons_ (rfl) (AllL.cons_ (rfl) (AllL.cons_ (rfl) trivial))))))) (AllL.cons_ (rfl) (AllL.cons_ (rfl) (AllL.cons_ (rfl) (AllL.cons_ (rfl) (AllL.cons_ (rfl) trivial))))) ?_
                      exact hGi (hG6_6 b92 A94 b94 c94 g94a g94b)
                    ·
                      refine At.bSQ (some 95) (Q_loadA (k := 3) rfl rfl Try.underlying23 rfl sz23 LN rfl) ?_
                      refine At.to [(6, _), (7, _), (11, _), (92, _), (93, _), (95, _), (97, _), (98, _)] [(0, _), (11, _), (78, _), (92, _)] (AllL.cons_ (rfl) (AllL.cons_ (rfl) (AllL.cons_ (rfl) (AllL.cons_ (rfl) (AllL.cons_ (rfl) (AllL.cons_ (rfl) (AllL.cons_ (rfl) (AllL.cons_ (rfl) trivial)))))))) (AllL.cons_ (rfl) (AllL.cons_ (rfl) (AllL.cons_ (rfl) (AllL.cons_ (rfl) trivial)))) ?_
                      exact hGi (hG6_7 b92)
                    ·
                      refine At.bSQ (some 96) (Q_loadA (k := 11) rfl rfl Try.underlying107 rfl sz107 LN rfl) ?_
                      refine At.to [(3, _), (6, _), (7, _), (92, _), (93, _), (96, _), (97, _), (98, _)] [(0, _), (3, _), (78, _), (92, _)] (AllL.cons_ (rfl) (AllL.cons_ (rfl) (AllL.cons_ (rfl) (AllL.cons_ (rfl) (AllL.cons_ (rfl) (AllL.cons_ (rfl) (AllL.cons_ (rfl) (AllL.cons_ (rfl) trivial)))))))) (AllL.cons_ (rfl) (AllL.cons_ (rfl) (AllL.cons_ (rfl) (AllL.cons_ (rfl) trivial)))) ?_
                      exact hGi (hG6_8 b92)
                  have hG6_11  : G 7 #[false, true, false, true, false, true, true, false, false, false, false] (frOf [(6, .slice none 0 0), (7, .bool false), (11, ptr b11 0), (93, .slice (some ⟨b78, 0, none⟩) 10 10), (95, aggK key), (97, .slice Ab nb cb), (98, .slice (some ⟨b78, 0, none⟩) 10 10)]) (hOf [(0, pRow bb qb b), (11, ⟨true, b11, 0, 107, ([0#8, 0#8, 0#8, 0#8, 0#8, 0#8, 0#8, 0#8, ((noteB c n g).getD 0 0#8), ((noteB c n g).getD 1 0#8), ((noteB c n g).getD 2 0#8), ((noteB c n g).getD 3 0#8)]).map u8V, 0⟩), (78, ⟨true, b78, 0, 5, ((noteB c n g)).map u8V, 0⟩)]) := by
                    refine hGo ?_
                    refine At.bStep [0, 4] (by kernel_rfl) (by simp) ?_
                    refine ⟨?_, ?_⟩
                    ·
                      refine At.bS false (by kernel_rfl) (S_buildSlice0 (some 92) 92 rfl Try.underlying22 sz5 (fun b92 => ?_))
                      refine At.to [(6, _), (7, _), (11, _), (92, _), (93, _), (95, _), (97, _), (98, _)] [(0, _), (11, _), (78, _), (92, _)] (AllL.cons_ (rfl) (AllL.cons_ (rfl) (AllL.cons_ (rfl) (AllL.cons_ (rfl) (AllL.cons_ (rfl) (AllL.cons_ (rfl) (AllL.cons_ (rfl) (AllL.cons_ (rfl) trivial)))))))) (AllL.cons_ (rfl) (AllL.cons_ (rfl) (AllL.cons_ (rfl) (AllL.cons_ (rfl) trivial)))) ?_
                      exact hGi (hG6_7 b92)
                    ·
                      refine At.bSQ (some 96) (Q_loadA (k := 11) rfl rfl Try.underlying107 rfl sz107 LN rfl) ?_
                      refine At.to [(6, _), (7, _), (93, _), (95, _), (96, _), (97, _), (98, _)] [(0, _), (78, _)] (AllL.cons_ (rfl) (AllL.cons_ (rfl) (AllL.cons_ (rfl) (AllL.cons_ (rfl) (AllL.cons_ (rfl) (AllL.cons_ (rfl) (AllL.cons_ (rfl) trivial))))))) (AllL.cons_ (rfl) (AllL.cons_ (rfl) trivial)) ?_
                      exact hGi (hG6_9 )
                  have hG6_12  : G 7 #[false, true, false, false, true, true, true, false, false, false, false] (frOf [(3, ptr b3 0), (6, .slice none 0 0), (7, .bool false), (93, .slice (some ⟨b78, 0, none⟩) 10 10), (96, aggK [0#8, 0#8, 0#8, 0#8, 0#8, 0#8, 0#8, 0#8, ((noteB c n g).getD 0 0#8), ((noteB c n g).getD 1 0#8), ((noteB c n g).getD 2 0#8), ((noteB c n g).getD 3 0#8)]), (97, .slice Ab nb cb), (98, .slice (some ⟨b78, 0, none⟩) 10 10)]) (hOf [(0, pRow bb qb b), (3, ⟨true, b3, 0, 23, (key).map u8V, 0⟩), (78, ⟨true, b78, 0, 5, ((noteB c n g)).map u8V, 0⟩)]) := by
                    refine hGo ?_
                    refine At.bStep [0, 3] (by kernel_rfl) (by simp) ?_
                    refine ⟨?_, ?_⟩
                    ·
                      refine At.bS false (by kernel_rfl) (S_buildSlice0 (some 92) 92 rfl Try.underlying22 sz5 (fun b92 => ?_))
                      refine At.to [(3, _), (6, _), (7, _), (92, _), (93, _), (96, _), (97, _), (98, _)] [(0, _), (3, _), (78, _), (92, _)] (AllL.cons_ (rfl) (AllL.cons_ (rfl) (AllL.cons_ (rfl) (AllL.cons_ (rfl) (AllL.cons_ (rfl) (AllL.cons_ (rfl) (AllL.cons_ (rfl) (AllL.cons_ (rfl) trivial)))))))) (AllL.cons_ (rfl) (AllL.cons_ (rfl) (AllL.cons_ (rfl) (AllL.cons_ (rfl) trivial)))) ?_
                      exact hGi (hG6_8 b92)
                    ·
                      refine At.bSQ (some 95) (Q_loadA (k := 3) rfl rfl Try.underlying23 rfl sz23 LN rfl) ?_
                      refine At.to [(6, _), (7, _), (93, _), (95, _), (96, _), (97, _), (98, _)] [(0, _), (78, _)] (AllL.cons_ (rfl) (AllL.cons_ (rfl) (AllL.cons_ (rfl) (AllL.cons_ (rfl) (AllL.cons_ (rfl) (AllL.cons_ (rfl) (AllL.cons_ (rfl) trivial))))))) (AllL.cons_ (rfl) (AllL.cons_ (rfl) trivial)) ?_
                      exact hGi (hG6_9 )
                  have hG6_13  : G 8 #[false, true, false, false, false, true, true, false, false, false, false] (frOf [(3, ptr b3 0), (6, .slice none 0 0), (7, .bool false), (11, ptr b11 0), (93, .slice (some ⟨b78, 0, none⟩) 10 10), (97, .slice Ab nb cb), (98, .slice (some ⟨b78, 0, none⟩) 10 10)]) (hOf [(0, pRow bb qb b), (3, ⟨true, b3, 0, 23, (key).map u8V, 0⟩), (11, ⟨true, b11, 0, 107, ([0#8, 0#8, 0#8, 0#8, 0#8, 0#8, 0#8, 0#8, ((noteB c n g).getD 0 0#8), ((noteB c n g).getD 1 0#8), ((noteB c n g).getD 2 0#8), ((noteB c n g).getD 3 0#8)]).map u8V, 0⟩), (78, ⟨true, b78, 0, 5, ((noteB c n g)).map u8V, 0⟩)]) := by
                    refine hGo ?_
                    refine At.bStep [0, 3, 4] (by kernel_rfl) (by simp) ?_
                    refine ⟨?_, ?_, ?_⟩
                    ·
                      refine At.bS false (by kernel_rfl) (S_buildSlice0 (some 92) 92 rfl Try.underlying22 sz5 (fun b92 => ?_))
                      refine At.to [(3, _), (6, _), (7, _), (11, _), (92, _), (93, _), (97, _), (98, _)] [(0, _), (3, _), (11, _), (78, _), (92, _)] (AllL.cons_ (rfl) (AllL.cons_ (rfl) (AllL.cons_ (rfl) (AllL.cons_ (rfl) (AllL.cons_ (rfl) (AllL.cons_ (rfl) (AllL.cons_ (rfl) (AllL.cons_ (rfl) trivial)))))))) (AllL.cons_ (rfl) (AllL.cons_ (rfl) (AllL.cons_ (rfl) (AllL.cons_ (rfl) (AllL.cons_ (rfl) trivial))))) ?_
                      exact hGi (hG6_10 b92)
                    ·
                      refine At.bSQ (some 95) (Q_loadA (k := 3) rfl rfl Try.underlying23 rfl sz23 LN rfl) ?_
                      refine At.to [(6, _), (7, _), (11, _), (93, _), (95, _), (97, _), (98, _)] [(0, _), (11, _), (78, _)] (AllL.cons_ (rfl) (AllL.cons_ (rfl) (AllL.cons_ (rfl) (AllL.cons_ (rfl) (AllL.cons_ (rfl) (AllL.cons_ (rfl) (AllL.cons_ (rfl) trivial))))))) (AllL.cons_ (rfl) (AllL.cons_ (rfl) (AllL.cons_ (rfl) trivial))) ?_
                      exact hGi (hG6_11 )
                    ·
                      refine At.bSQ (some 96) (Q_loadA (k := 11) rfl rfl Try.underlying107 rfl sz107 LN rfl) ?_
                      refine At.to [(3, _), (6, _), (7, _), (93, _), (96, _), (97, _), (98, _)] [(0, _), (3, _), (78, _)] (AllL.cons_ (rfl) (AllL.cons_ (rfl) (AllL.cons_ (rfl) (AllL.cons_ (rfl) (AllL.cons_ (rfl) (AllL.cons_ (rfl) (AllL.cons_ (rfl) trivial))))))) (AllL.cons_ (rfl) (AllL.cons_ (rfl) (AllL.cons_ (rfl) trivial))) ?_
                      exact hGi (hG6_12 )
                  refine hGo ?_
                  refine At.bP  1 (some 93) (P_move rfl rfl) (by kernel_rfl) (by kernel_rfl) ?_
                  refine At.bP  5 (some 97) (P_move rfl rfl) (by kernel_rfl) (by kernel_rfl) ?_
                  refine At.bP  6 (some 98) (P_move rfl rfl) (by kernel_rfl) (by kernel_rfl) ?_
                  refine At.to [(3, _), (6, _), (7, _), (11, _), (93, _), (97, _), (98, _)] [(0, _), (3, _), (11, _), (78, _)] (AllL.cons_ (rfl) (AllL.cons_ (rfl) (AllL.cons_ (rfl) (AllL.cons_ (rfl) (AllL.cons_ (rfl) (AllL.cons_ (rfl) (AllL.cons_ (rfl) trivial))))))) (AllL.cons_ (rfl) (AllL.cons_ (rfl) (AllL.cons_ (rfl) (AllL.cons_ (rfl) trivial)))) ?_
                  exact hGi (hG6_13 )
                · rintro fr H ⟨b92, A94, b94, c94, A99, b99, c99, A100, b100, c100, rfl, rfl, g94a, g94b, g99a, g99b, g100a, g100b, -⟩
                  refine At.next ?_
                  refine At.ret ?_
                  have hv : vsOk c n g b = true := vsOk_t (decide_eq_true (by omega)) (by omega)
                  have hq0 : ((noteB c n g) ++ sealS key [0#8, 0#8, 0#8, 0#8, 0#8, 0#8, 0#8, 0#8, ((noteB c n g).getD 0 0#8), ((noteB c n g).getD 1 0#8), ((noteB c n g).getD 2 0#8), ((noteB c n g).getD 3 0#8)] b (noteB c n g)) = vsT key c n g b := (by rw [vsT_t hv]; rfl)
                  have hq1 : true = (vsOk c n g b) := hv.symm
                  refine At.give (.inl rfl) [92] (rows' := [_]) (vs := [_, _]) rfl ⟨rfl, rfl, trivial⟩ rfl (by simp) (by simp) ⟨A100, b100, c100, g100a, (by rw [← hq0]; first | omega | (simp; done) | (simp <;> omega) | exact Nat.le_refl _), (by first | (rw [hq0, hq1]; try rfl; done) | (rw [← hq0, ← hq1]; try rfl; done) | (simp only [hq0, hq1]; try rfl; done) | (simp only [← hq0, ← hq1]; try rfl; done) | rfl), (by first | (rw [hq0, hq1]; try rfl; done) | (rw [← hq0, ← hq1]; try rfl; done) | (simp only [hq0, hq1]; try rfl; done) | (simp only [← hq0, ← hq1]; try rfl; done) | rfl)⟩
            ·
              have eg6 : g > 2147483647 := of_decide_eq_true g6
              refine At.gn (some 41) (t := 40) rfl g6 rfl rfl ?_
              refine At.gn (some 42) (t := 40) rfl g6 rfl rfl ?_
              refine At.gn (some 43) (t := 40) rfl g6 rfl rfl ?_
              refine At.p (some 44) (P_pick_t rfl rfl g6 rfl) ?_
              refine At.nil ?_
              refine At.next ?_
              refine At.cond rfl (fun _ => ?_) (fun h => absurd (h.symm.trans rfl) (by decide))
              refine At.seq ?_
              refine At.region ?_
              refine At.p (some 6) (P_assign rfl rfl) ?_
              refine At.p (some 7) (P_assign rfl rfl) ?_
              refine At.nil ?_
              refine At.next ?_
              refine At.ret ?_
              refine At.thn_r ?_
              have hv : vsOk c n g b = false := vsOk_f (fun hr => by have h9 := nrB_t hr; first | omega | (simp at *; omega))
              refine At.empty 990 0 5 ?_
              have hq0 : ([] : List (BitVec 8)) = vsT key c n g b := (by rw [vsT_f hv])
              have hq1 : false = (vsOk c n g b) := hv.symm
              refine At.give (.inl rfl) [990] (rows' := [_]) (vs := [_, _]) rfl ⟨rfl, rfl, trivial⟩ rfl (by simp) (by simp) ⟨none, 0, 0, (fun h => absurd h (Nat.lt_irrefl 0)), (by rw [← hq0]; exact Nat.le_refl _), (by first | (rw [hq0, hq1]; try rfl; done) | (rw [← hq0, ← hq1]; try rfl; done) | (simp only [hq0, hq1]; try rfl; done) | (simp only [← hq0, ← hq1]; try rfl; done) | rfl), (by first | (rw [hq0, hq1]; try rfl; done) | (rw [← hq0, ← hq1]; try rfl; done) | (simp only [hq0, hq1]; try rfl; done) | (simp only [← hq0, ← hq1]; try rfl; done) | rfl)⟩
          ·
            have eg5 : g < 0 := of_decide_eq_true g5
            refine At.gn (some 36) (t := 35) rfl g5 rfl rfl ?_
            refine At.gn (some 37) (t := 35) rfl g5 rfl rfl ?_
            refine At.gn (some 38) (t := 35) rfl g5 rfl rfl ?_
            refine At.p (some 39) (P_pick_t rfl rfl g5 rfl) ?_
            refine At.p (some 40) (P_move rfl rfl) ?_
            refine At.gn (some 41) (t := 40) rfl rfl rfl rfl ?_
            refine At.gn (some 42) (t := 40) rfl rfl rfl rfl ?_
            refine At.gn (some 43) (t := 40) rfl rfl rfl rfl ?_
            refine At.p (some 44) (P_pick_t rfl rfl rfl rfl) ?_
            refine At.nil ?_
            refine At.next ?_
            refine At.cond rfl (fun _ => ?_) (fun h => absurd (h.symm.trans rfl) (by decide))
            refine At.seq ?_
            refine At.region ?_
            refine At.p (some 6) (P_assign rfl rfl) ?_
            refine At.p (some 7) (P_assign rfl rfl) ?_
            refine At.nil ?_
            refine At.next ?_
            refine At.ret ?_
            refine At.thn_r ?_
            have hv : vsOk c n g b = false := vsOk_f (fun hr => by have h9 := nrB_t hr; first | omega | (simp at *; omega))
            refine At.empty 990 0 5 ?_
            have hq0 : ([] : List (BitVec 8)) = vsT key c n g b := (by rw [vsT_f hv])
            have hq1 : false = (vsOk c n g b) := hv.symm
            refine At.give (.inl rfl) [990] (rows' := [_]) (vs := [_, _]) rfl ⟨rfl, rfl, trivial⟩ rfl (by simp) (by simp) ⟨none, 0, 0, (fun h => absurd h (Nat.lt_irrefl 0)), (by rw [← hq0]; exact Nat.le_refl _), (by first | (rw [hq0, hq1]; try rfl; done) | (rw [← hq0, ← hq1]; try rfl; done) | (simp only [hq0, hq1]; try rfl; done) | (simp only [← hq0, ← hq1]; try rfl; done) | rfl), (by first | (rw [hq0, hq1]; try rfl; done) | (rw [← hq0, ← hq1]; try rfl; done) | (simp only [hq0, hq1]; try rfl; done) | (simp only [← hq0, ← hq1]; try rfl; done) | rfl)⟩
        ·
          have eg4 : n > 65535 := of_decide_eq_true g4
          refine At.gn (some 31) (t := 30) rfl g4 rfl rfl ?_
          refine At.gn (some 32) (t := 30) rfl g4 rfl rfl ?_
          refine At.gn (some 33) (t := 30) rfl g4 rfl rfl ?_
          refine At.p (some 34) (P_pick_t rfl rfl g4 rfl) ?_
          refine At.p (some 35) (P_move rfl rfl) ?_
          refine At.gn (some 36) (t := 35) rfl rfl rfl rfl ?_
          refine At.gn (some 37) (t := 35) rfl rfl rfl rfl ?_
          refine At.gn (some 38) (t := 35) rfl rfl rfl rfl ?_
          refine At.p (some 39) (P_pick_t rfl rfl rfl rfl) ?_
          refine At.p (some 40) (P_move rfl rfl) ?_
          refine At.gn (some 41) (t := 40) rfl rfl rfl rfl ?_
          refine At.gn (some 42) (t := 40) rfl rfl rfl rfl ?_
          refine At.gn (some 43) (t := 40) rfl rfl rfl rfl ?_
          refine At.p (some 44) (P_pick_t rfl rfl rfl rfl) ?_
          refine At.nil ?_
          refine At.next ?_
          refine At.cond rfl (fun _ => ?_) (fun h => absurd (h.symm.trans rfl) (by decide))
          refine At.seq ?_
          refine At.region ?_
          refine At.p (some 6) (P_assign rfl rfl) ?_
          refine At.p (some 7) (P_assign rfl rfl) ?_
          refine At.nil ?_
          refine At.next ?_
          refine At.ret ?_
          refine At.thn_r ?_
          have hv : vsOk c n g b = false := vsOk_f (fun hr => by have h9 := nrB_t hr; first | omega | (simp at *; omega))
          refine At.empty 990 0 5 ?_
          have hq0 : ([] : List (BitVec 8)) = vsT key c n g b := (by rw [vsT_f hv])
          have hq1 : false = (vsOk c n g b) := hv.symm
          refine At.give (.inl rfl) [990] (rows' := [_]) (vs := [_, _]) rfl ⟨rfl, rfl, trivial⟩ rfl (by simp) (by simp) ⟨none, 0, 0, (fun h => absurd h (Nat.lt_irrefl 0)), (by rw [← hq0]; exact Nat.le_refl _), (by first | (rw [hq0, hq1]; try rfl; done) | (rw [← hq0, ← hq1]; try rfl; done) | (simp only [hq0, hq1]; try rfl; done) | (simp only [← hq0, ← hq1]; try rfl; done) | rfl), (by first | (rw [hq0, hq1]; try rfl; done) | (rw [← hq0, ← hq1]; try rfl; done) | (simp only [hq0, hq1]; try rfl; done) | (simp only [← hq0, ← hq1]; try rfl; done) | rfl)⟩
      ·
        have eg3 : n < 0 := of_decide_eq_true g3
        refine At.gn (some 26) (t := 25) rfl g3 rfl rfl ?_
        refine At.gn (some 27) (t := 25) rfl g3 rfl rfl ?_
        refine At.gn (some 28) (t := 25) rfl g3 rfl rfl ?_
        refine At.p (some 29) (P_pick_t rfl rfl g3 rfl) ?_
        refine At.p (some 30) (P_move rfl rfl) ?_
        refine At.gn (some 31) (t := 30) rfl rfl rfl rfl ?_
        refine At.gn (some 32) (t := 30) rfl rfl rfl rfl ?_
        refine At.gn (some 33) (t := 30) rfl rfl rfl rfl ?_
        refine At.p (some 34) (P_pick_t rfl rfl rfl rfl) ?_
        refine At.p (some 35) (P_move rfl rfl) ?_
        refine At.gn (some 36) (t := 35) rfl rfl rfl rfl ?_
        refine At.gn (some 37) (t := 35) rfl rfl rfl rfl ?_
        refine At.gn (some 38) (t := 35) rfl rfl rfl rfl ?_
        refine At.p (some 39) (P_pick_t rfl rfl rfl rfl) ?_
        refine At.p (some 40) (P_move rfl rfl) ?_
        refine At.gn (some 41) (t := 40) rfl rfl rfl rfl ?_
        refine At.gn (some 42) (t := 40) rfl rfl rfl rfl ?_
        refine At.gn (some 43) (t := 40) rfl rfl rfl rfl ?_
        refine At.p (some 44) (P_pick_t rfl rfl rfl rfl) ?_
        refine At.nil ?_
        refine At.next ?_
        refine At.cond rfl (fun _ => ?_) (fun h => absurd (h.symm.trans rfl) (by decide))
        refine At.seq ?_
        refine At.region ?_
        refine At.p (some 6) (P_assign rfl rfl) ?_
        refine At.p (some 7) (P_assign rfl rfl) ?_
        refine At.nil ?_
        refine At.next ?_
        refine At.ret ?_
        refine At.thn_r ?_
        have hv : vsOk c n g b = false := vsOk_f (fun hr => by have h9 := nrB_t hr; first | omega | (simp at *; omega))
        refine At.empty 990 0 5 ?_
        have hq0 : ([] : List (BitVec 8)) = vsT key c n g b := (by rw [vsT_f hv])
        have hq1 : false = (vsOk c n g b) := hv.symm
        refine At.give (.inl rfl) [990] (rows' := [_]) (vs := [_, _]) rfl ⟨rfl, rfl, trivial⟩ rfl (by simp) (by simp) ⟨none, 0, 0, (fun h => absurd h (Nat.lt_irrefl 0)), (by rw [← hq0]; exact Nat.le_refl _), (by first | (rw [hq0, hq1]; try rfl; done) | (rw [← hq0, ← hq1]; try rfl; done) | (simp only [hq0, hq1]; try rfl; done) | (simp only [← hq0, ← hq1]; try rfl; done) | rfl), (by first | (rw [hq0, hq1]; try rfl; done) | (rw [← hq0, ← hq1]; try rfl; done) | (simp only [hq0, hq1]; try rfl; done) | (simp only [← hq0, ← hq1]; try rfl; done) | rfl)⟩
    ·
      have eg2 : c > 2147483647 := of_decide_eq_true g2
      refine At.gn (some 21) (t := 20) rfl g2 rfl rfl ?_
      refine At.gn (some 22) (t := 20) rfl g2 rfl rfl ?_
      refine At.gn (some 23) (t := 20) rfl g2 rfl rfl ?_
      refine At.p (some 24) (P_pick_t rfl rfl g2 rfl) ?_
      refine At.p (some 25) (P_move rfl rfl) ?_
      refine At.gn (some 26) (t := 25) rfl rfl rfl rfl ?_
      refine At.gn (some 27) (t := 25) rfl rfl rfl rfl ?_
      refine At.gn (some 28) (t := 25) rfl rfl rfl rfl ?_
      refine At.p (some 29) (P_pick_t rfl rfl rfl rfl) ?_
      refine At.p (some 30) (P_move rfl rfl) ?_
      refine At.gn (some 31) (t := 30) rfl rfl rfl rfl ?_
      refine At.gn (some 32) (t := 30) rfl rfl rfl rfl ?_
      refine At.gn (some 33) (t := 30) rfl rfl rfl rfl ?_
      refine At.p (some 34) (P_pick_t rfl rfl rfl rfl) ?_
      refine At.p (some 35) (P_move rfl rfl) ?_
      refine At.gn (some 36) (t := 35) rfl rfl rfl rfl ?_
      refine At.gn (some 37) (t := 35) rfl rfl rfl rfl ?_
      refine At.gn (some 38) (t := 35) rfl rfl rfl rfl ?_
      refine At.p (some 39) (P_pick_t rfl rfl rfl rfl) ?_
      refine At.p (some 40) (P_move rfl rfl) ?_
      refine At.gn (some 41) (t := 40) rfl rfl rfl rfl ?_
      refine At.gn (some 42) (t := 40) rfl rfl rfl rfl ?_
      refine At.gn (some 43) (t := 40) rfl rfl rfl rfl ?_
      refine At.p (some 44) (P_pick_t rfl rfl rfl rfl) ?_
      refine At.nil ?_
      refine At.next ?_
      refine At.cond rfl (fun _ => ?_) (fun h => absurd (h.symm.trans rfl) (by decide))
      refine At.seq ?_
      refine At.region ?_
      refine At.p (some 6) (P_assign rfl rfl) ?_
      refine At.p (some 7) (P_assign rfl rfl) ?_
      refine At.nil ?_
      refine At.next ?_
      refine At.ret ?_
      refine At.thn_r ?_
      have hv : vsOk c n g b = false := vsOk_f (fun hr => by have h9 := nrB_t hr; first | omega | (simp at *; omega))
      refine At.empty 990 0 5 ?_
      have hq0 : ([] : List (BitVec 8)) = vsT key c n g b := (by rw [vsT_f hv])
      have hq1 : false = (vsOk c n g b) := hv.symm
      refine At.give (.inl rfl) [990] (rows' := [_]) (vs := [_, _]) rfl ⟨rfl, rfl, trivial⟩ rfl (by simp) (by simp) ⟨none, 0, 0, (fun h => absurd h (Nat.lt_irrefl 0)), (by rw [← hq0]; exact Nat.le_refl _), (by first | (rw [hq0, hq1]; try rfl; done) | (rw [← hq0, ← hq1]; try rfl; done) | (simp only [hq0, hq1]; try rfl; done) | (simp only [← hq0, ← hq1]; try rfl; done) | rfl), (by first | (rw [hq0, hq1]; try rfl; done) | (rw [← hq0, ← hq1]; try rfl; done) | (simp only [hq0, hq1]; try rfl; done) | (simp only [← hq0, ← hq1]; try rfl; done) | rfl)⟩
  ·
    have eg1 : c < 0 := of_decide_eq_true g1
    refine At.gn (some 16) (t := 15) rfl g1 rfl rfl ?_
    refine At.gn (some 17) (t := 15) rfl g1 rfl rfl ?_
    refine At.gn (some 18) (t := 15) rfl g1 rfl rfl ?_
    refine At.p (some 19) (P_pick_t rfl rfl g1 rfl) ?_
    refine At.p (some 20) (P_move rfl rfl) ?_
    refine At.gn (some 21) (t := 20) rfl rfl rfl rfl ?_
    refine At.gn (some 22) (t := 20) rfl rfl rfl rfl ?_
    refine At.gn (some 23) (t := 20) rfl rfl rfl rfl ?_
    refine At.p (some 24) (P_pick_t rfl rfl rfl rfl) ?_
    refine At.p (some 25) (P_move rfl rfl) ?_
    refine At.gn (some 26) (t := 25) rfl rfl rfl rfl ?_
    refine At.gn (some 27) (t := 25) rfl rfl rfl rfl ?_
    refine At.gn (some 28) (t := 25) rfl rfl rfl rfl ?_
    refine At.p (some 29) (P_pick_t rfl rfl rfl rfl) ?_
    refine At.p (some 30) (P_move rfl rfl) ?_
    refine At.gn (some 31) (t := 30) rfl rfl rfl rfl ?_
    refine At.gn (some 32) (t := 30) rfl rfl rfl rfl ?_
    refine At.gn (some 33) (t := 30) rfl rfl rfl rfl ?_
    refine At.p (some 34) (P_pick_t rfl rfl rfl rfl) ?_
    refine At.p (some 35) (P_move rfl rfl) ?_
    refine At.gn (some 36) (t := 35) rfl rfl rfl rfl ?_
    refine At.gn (some 37) (t := 35) rfl rfl rfl rfl ?_
    refine At.gn (some 38) (t := 35) rfl rfl rfl rfl ?_
    refine At.p (some 39) (P_pick_t rfl rfl rfl rfl) ?_
    refine At.p (some 40) (P_move rfl rfl) ?_
    refine At.gn (some 41) (t := 40) rfl rfl rfl rfl ?_
    refine At.gn (some 42) (t := 40) rfl rfl rfl rfl ?_
    refine At.gn (some 43) (t := 40) rfl rfl rfl rfl ?_
    refine At.p (some 44) (P_pick_t rfl rfl rfl rfl) ?_
    refine At.nil ?_
    refine At.next ?_
    refine At.cond rfl (fun _ => ?_) (fun h => absurd (h.symm.trans rfl) (by decide))
    refine At.seq ?_
    refine At.region ?_
    refine At.p (some 6) (P_assign rfl rfl) ?_
    refine At.p (some 7) (P_assign rfl rfl) ?_
    refine At.nil ?_
    refine At.next ?_
    refine At.ret ?_
    refine At.thn_r ?_
    have hv : vsOk c n g b = false := vsOk_f (fun hr => by have h9 := nrB_t hr; first | omega | (simp at *; omega))
    refine At.empty 990 0 5 ?_
    have hq0 : ([] : List (BitVec 8)) = vsT key c n g b := (by rw [vsT_f hv])
    have hq1 : false = (vsOk c n g b) := hv.symm
    refine At.give (.inl rfl) [990] (rows' := [_]) (vs := [_, _]) rfl ⟨rfl, rfl, trivial⟩ rfl (by simp) (by simp) ⟨none, 0, 0, (fun h => absurd h (Nat.lt_irrefl 0)), (by rw [← hq0]; exact Nat.le_refl _), (by first | (rw [hq0, hq1]; try rfl; done) | (rw [← hq0, ← hq1]; try rfl; done) | (simp only [hq0, hq1]; try rfl; done) | (simp only [← hq0, ← hq1]; try rfl; done) | rfl), (by first | (rw [hq0, hq1]; try rfl; done) | (rw [← hq0, ← hq1]; try rfl; done) | (simp only [hq0, hq1]; try rfl; done) | (simp only [← hq0, ← hq1]; try rfl; done) | rfl)⟩

set_option maxHeartbeats 2000000 in
theorem c_take4 {br nr cr bbr qr : Nat} {lr : List (BitVec 8)} {Ar : Option Addr} (hnr : lr.length = nr) (hAr : 0 < nr → Ar = some ⟨bbr, qr, none⟩) (hcr : nr ≤ cr) (hw : 4 ≤ nr) :
    Con Try.prog 100 [ptr br 0, iV 4] [⟨true, br, 0, 146, [.slice Ar nr cr, iV 0], 0⟩, pRow bbr qr lr] (fun v rs => v = .tuple #[.slice (cut Ar 0 4 1) (4 - 0) (4 - 0), .bool true] ∧ rs = [⟨true, br, 0, 146, [.slice (cut Ar 4 cr 1) (nr - 4) (cr - 4), iV 0], 0⟩]) := by
  refine Con.enter Try.func100 Try.ntmps100 (Nat.le_of_ble_eq_true rfl) rfl fun w => ?_
  refine At.seq ?_
  refine At.region ?_
  refine At.p (some 4) (P_assign rfl rfl) ?_
  refine At.p (some 5) (P_assign rfl rfl) ?_
  refine At.nil ?_
  refine At.next ?_
  refine At.seq ?_
  refine At.block ?_
  refine At.seq ?_
  refine At.region ?_
  refine At.p (some 8) (P_move rfl rfl) ?_
  refine At.p (some 9) (P_eql_ptr rfl rfl rfl Try.underlying110) ?_
  refine At.p (some 7) (P_assign rfl rfl) ?_
  refine At.nil ?_
  refine At.next ?_
  refine At.cond rfl (fun h7 => by exfalso; first | (simp at h7; done) | (simp at h7; omega)) (fun h7 => ?_)
  refine At.seq ?_
  refine At.region ?_
  refine At.p (some 11) (P_move rfl rfl) ?_
  refine At.p (some 12) (P_cmp rfl rfl rfl rfl rfl rfl) ?_
  refine At.p (some 10) (P_assign rfl rfl) ?_
  refine At.nil ?_
  refine At.next ?_
  refine At.cond rfl (fun h10 => by exfalso; have e9 : 4 < 0 := of_decide_eq_true h10; first | omega | (simp at e9; done) | (simp at e9; omega)) (fun h10 => ?_)
  have e10 : ¬ 4 < 0 := of_decide_eq_false h10
  refine At.seq ?_
  refine At.region ?_
  refine At.p (some 16) (P_move rfl rfl) ?_
  refine At.p (some 17) (P_move rfl rfl) ?_
  refine At.p (some 18) (P_nilCheck rfl rfl) ?_
  refine At.p (some 19) (P_fieldAddr0 (off := 0) rfl Try.underlying146 rfl sz22 rfl rfl) ?_
  refine At.q (some 20) (Q_loadO (k := 0) rfl rfl Try.underlying22 rfl rfl rfl) ?_
  refine At.p (some 21) (P_len_sl rfl rfl ⟨_, Try.underlying22⟩ rfl) ?_
  refine At.p (some 22) (P_cmp rfl rfl rfl rfl rfl rfl) ?_
  refine At.p (some 15) (P_assign rfl rfl) ?_
  refine At.nil ?_
  refine At.next ?_
  refine At.cond rfl (fun h15 => by simp at h15; omega) (fun h15 => ?_)
  have e15 : ¬ 4 > (nr : Int) := of_decide_eq_false h15
  refine At.skip ?_
  refine At.inb_n ?_
  refine At.next ?_
  refine At.seq ?_
  refine At.seq ?_
  refine At.region ?_
  refine At.p (some 25) (P_move rfl rfl) ?_
  refine At.p (some 26) (P_nilCheck rfl rfl) ?_
  refine At.p (some 27) (P_fieldAddr0 (off := 1) rfl Try.underlying146 rfl sz50 rfl rfl) ?_
  refine At.q (some 28) (Q_loadO (k := 0) rfl rfl Try.underlying50 rfl rfl rfl) ?_
  refine At.p (some 29) (P_cmp rfl rfl rfl rfl rfl rfl) ?_
  refine At.nil ?_
  refine At.next ?_
  refine At.cond rfl (fun h29 => by exfalso; have e9 : 0 ≠ 0 := bne_iff_ne.1 h29; first | omega | (simp at e9; done) | (simp at e9; omega)) (fun h29 => ?_)
  have e29 : 0 = 0 := bne_eq_false_iff_eq.1 h29
  refine At.skip ?_
  refine At.next ?_
  refine At.seq ?_
  refine At.region ?_
  refine At.p (some 30) (P_move rfl rfl) ?_
  refine At.p (some 31) (P_nilCheck rfl rfl) ?_
  refine At.p (some 32) (P_fieldAddr0 (off := 0) rfl Try.underlying146 rfl sz22 rfl rfl) ?_
  refine At.q (some 33) (Q_loadO (k := 0) rfl rfl Try.underlying22 rfl rfl rfl) ?_
  refine At.p (some 34) (P_move rfl rfl) ?_
  refine At.p (some 35) (P_move rfl rfl) ?_
  refine At.p (some 36) (P_slice_sl (l := 0) (h := 4) (m := 4) rfl Try.underlying22 sz5 rfl rfl ⟨_, _, rfl, by omega⟩ ⟨_, _, rfl, by omega⟩ DO DO DO) ?_
  refine At.p (some 6) (P_assign rfl rfl) ?_
  refine At.nil ?_
  refine At.next ?_
  refine At.seq ?_
  refine At.region ?_
  refine At.p (some 37) (P_move rfl rfl) ?_
  refine At.p (some 38) (P_move rfl rfl) ?_
  refine At.p (some 39) (P_nilCheck rfl rfl) ?_
  refine At.p (some 40) (P_fieldAddr0 (off := 0) rfl Try.underlying146 rfl sz22 rfl rfl) ?_
  refine At.q (some 41) (Q_loadO (k := 0) rfl rfl Try.underlying22 rfl rfl rfl) ?_
  refine At.p (some 42) (P_move rfl rfl) ?_
  refine At.p (some 43) (P_slice_sl (l := 4) (h := nr) (m := cr) rfl Try.underlying22 sz5 rfl ⟨_, _, rfl, by omega⟩ rfl rfl DO DO DO) ?_
  refine At.p (some 44) (P_nilCheck rfl rfl) ?_
  refine At.p (some 45) (P_fieldAddr0 (off := 0) rfl Try.underlying146 rfl sz22 rfl rfl) ?_
  refine At.s (S_store none (k := 0) rfl rfl rfl sz22 rfl rfl rfl LN ?_)
  refine At.nil ?_
  refine At.next ?_
  refine At.seq ?_
  refine At.region ?_
  refine At.p (some 46) (P_move rfl rfl) ?_
  refine At.p (some 4) (P_assign rfl rfl) ?_
  refine At.p (some 5) (P_assign rfl rfl) ?_
  refine At.nil ?_
  refine At.next ?_
  refine At.ret ?_
  refine At.give (.inl rfl) [0] (rows' := [_]) (vs := [_, _]) rfl ⟨rfl, rfl, trivial⟩ rfl (by simp) (by simp) ⟨rfl, rfl⟩

set_option maxHeartbeats 2000000 in
theorem c_take2 {br nr cr bbr qr : Nat} {lr : List (BitVec 8)} {Ar : Option Addr} (hnr : lr.length = nr) (hAr : 0 < nr → Ar = some ⟨bbr, qr, none⟩) (hcr : nr ≤ cr) (hw : 2 ≤ nr) :
    Con Try.prog 100 [ptr br 0, iV 2] [⟨true, br, 0, 146, [.slice Ar nr cr, iV 0], 0⟩, pRow bbr qr lr] (fun v rs => v = .tuple #[.slice (cut Ar 0 2 1) (2 - 0) (2 - 0), .bool true] ∧ rs = [⟨true, br, 0, 146, [.slice (cut Ar 2 cr 1) (nr - 2) (cr - 2), iV 0], 0⟩]) := by
  refine Con.enter Try.func100 Try.ntmps100 (Nat.le_of_ble_eq_true rfl) rfl fun w => ?_
  refine At.seq ?_
  refine At.region ?_
  refine At.p (some 4) (P_assign rfl rfl) ?_
  refine At.p (some 5) (P_assign rfl rfl) ?_
  refine At.nil ?_
  refine At.next ?_
  refine At.seq ?_
  refine At.block ?_
  refine At.seq ?_
  refine At.region ?_
  refine At.p (some 8) (P_move rfl rfl) ?_
  refine At.p (some 9) (P_eql_ptr rfl rfl rfl Try.underlying110) ?_
  refine At.p (some 7) (P_assign rfl rfl) ?_
  refine At.nil ?_
  refine At.next ?_
  refine At.cond rfl (fun h7 => by exfalso; first | (simp at h7; done) | (simp at h7; omega)) (fun h7 => ?_)
  refine At.seq ?_
  refine At.region ?_
  refine At.p (some 11) (P_move rfl rfl) ?_
  refine At.p (some 12) (P_cmp rfl rfl rfl rfl rfl rfl) ?_
  refine At.p (some 10) (P_assign rfl rfl) ?_
  refine At.nil ?_
  refine At.next ?_
  refine At.cond rfl (fun h10 => by exfalso; have e9 : 2 < 0 := of_decide_eq_true h10; first | omega | (simp at e9; done) | (simp at e9; omega)) (fun h10 => ?_)
  have e10 : ¬ 2 < 0 := of_decide_eq_false h10
  refine At.seq ?_
  refine At.region ?_
  refine At.p (some 16) (P_move rfl rfl) ?_
  refine At.p (some 17) (P_move rfl rfl) ?_
  refine At.p (some 18) (P_nilCheck rfl rfl) ?_
  refine At.p (some 19) (P_fieldAddr0 (off := 0) rfl Try.underlying146 rfl sz22 rfl rfl) ?_
  refine At.q (some 20) (Q_loadO (k := 0) rfl rfl Try.underlying22 rfl rfl rfl) ?_
  refine At.p (some 21) (P_len_sl rfl rfl ⟨_, Try.underlying22⟩ rfl) ?_
  refine At.p (some 22) (P_cmp rfl rfl rfl rfl rfl rfl) ?_
  refine At.p (some 15) (P_assign rfl rfl) ?_
  refine At.nil ?_
  refine At.next ?_
  refine At.cond rfl (fun h15 => by simp at h15; omega) (fun h15 => ?_)
  have e15 : ¬ 2 > (nr : Int) := of_decide_eq_false h15
  refine At.skip ?_
  refine At.inb_n ?_
  refine At.next ?_
  refine At.seq ?_
  refine At.seq ?_
  refine At.region ?_
  refine At.p (some 25) (P_move rfl rfl) ?_
  refine At.p (some 26) (P_nilCheck rfl rfl) ?_
  refine At.p (some 27) (P_fieldAddr0 (off := 1) rfl Try.underlying146 rfl sz50 rfl rfl) ?_
  refine At.q (some 28) (Q_loadO (k := 0) rfl rfl Try.underlying50 rfl rfl rfl) ?_
  refine At.p (some 29) (P_cmp rfl rfl rfl rfl rfl rfl) ?_
  refine At.nil ?_
  refine At.next ?_
  refine At.cond rfl (fun h29 => by exfalso; have e9 : 0 ≠ 0 := bne_iff_ne.1 h29; first | omega | (simp at e9; done) | (simp at e9; omega)) (fun h29 => ?_)
  have e29 : 0 = 0 := bne_eq_false_iff_eq.1 h29
  refine At.skip ?_
  refine At.next ?_
  refine At.seq ?_
  refine At.region ?_
  refine At.p (some 30) (P_move rfl rfl) ?_
  refine At.p (some 31) (P_nilCheck rfl rfl) ?_
  refine At.p (some 32) (P_fieldAddr0 (off := 0) rfl Try.underlying146 rfl sz22 rfl rfl) ?_
  refine At.q (some 33) (Q_loadO (k := 0) rfl rfl Try.underlying22 rfl rfl rfl) ?_
  refine At.p (some 34) (P_move rfl rfl) ?_
  refine At.p (some 35) (P_move rfl rfl) ?_
  refine At.p (some 36) (P_slice_sl (l := 0) (h := 2) (m := 2) rfl Try.underlying22 sz5 rfl rfl ⟨_, _, rfl, by omega⟩ ⟨_, _, rfl, by omega⟩ DO DO DO) ?_
  refine At.p (some 6) (P_assign rfl rfl) ?_
  refine At.nil ?_
  refine At.next ?_
  refine At.seq ?_
  refine At.region ?_
  refine At.p (some 37) (P_move rfl rfl) ?_
  refine At.p (some 38) (P_move rfl rfl) ?_
  refine At.p (some 39) (P_nilCheck rfl rfl) ?_
  refine At.p (some 40) (P_fieldAddr0 (off := 0) rfl Try.underlying146 rfl sz22 rfl rfl) ?_
  refine At.q (some 41) (Q_loadO (k := 0) rfl rfl Try.underlying22 rfl rfl rfl) ?_
  refine At.p (some 42) (P_move rfl rfl) ?_
  refine At.p (some 43) (P_slice_sl (l := 2) (h := nr) (m := cr) rfl Try.underlying22 sz5 rfl ⟨_, _, rfl, by omega⟩ rfl rfl DO DO DO) ?_
  refine At.p (some 44) (P_nilCheck rfl rfl) ?_
  refine At.p (some 45) (P_fieldAddr0 (off := 0) rfl Try.underlying146 rfl sz22 rfl rfl) ?_
  refine At.s (S_store none (k := 0) rfl rfl rfl sz22 rfl rfl rfl LN ?_)
  refine At.nil ?_
  refine At.next ?_
  refine At.seq ?_
  refine At.region ?_
  refine At.p (some 46) (P_move rfl rfl) ?_
  refine At.p (some 4) (P_assign rfl rfl) ?_
  refine At.p (some 5) (P_assign rfl rfl) ?_
  refine At.nil ?_
  refine At.next ?_
  refine At.ret ?_
  refine At.give (.inl rfl) [0] (rows' := [_]) (vs := [_, _]) rfl ⟨rfl, rfl, trivial⟩ rfl (by simp) (by simp) ⟨rfl, rfl⟩

set_option maxHeartbeats 2000000 in
theorem c_Uint4 {br nr cr bbr qr : Nat} {lr : List (BitVec 8)} {Ar : Option Addr} (hnr : lr.length = nr) (hAr : 0 < nr → Ar = some ⟨bbr, qr, none⟩) (hcr : nr ≤ cr) (hw : 4 ≤ nr) :
    Con Try.prog 73 [ptr br 0, iV 4] [⟨true, br, 0, 146, [.slice Ar nr cr, iV 0], 0⟩, pRow bbr qr lr] (fun v rs => v = iV ((beN (lr.take 4) 0 : Nat) : Int) ∧ rs = [⟨true, br, 0, 146, [.slice (cut Ar 4 cr 1) (nr - 4) (cr - 4), iV 0], 0⟩]) := by
  refine Con.enter Try.func73 Try.ntmps73 (Nat.le_of_ble_eq_true rfl) rfl fun w => ?_
  refine At.seq ?_
  refine At.region ?_
  refine At.p (some 4) (P_assign rfl rfl) ?_
  refine At.nil ?_
  refine At.next ?_
  refine At.seq ?_
  refine At.seq ?_
  refine At.region ?_
  refine At.p (some 10) (P_move rfl rfl) ?_
  refine At.p (some 11) (P_neq_ptr rfl rfl rfl Try.underlying110) ?_
  refine At.p (some 12) (P_move rfl rfl) ?_
  refine At.gy (t := 12) rfl rfl rfl rfl ?_
  refine At.p (some 13) (P_move rfl rfl) ?_
  refine At.gy (t := 12) rfl rfl rfl rfl ?_
  refine At.s (S_callV (some 14) [] [] (vs := [_]) rfl en98 rfl V0 (by simp) (c_right4) (by rintro _ _ ⟨rfl, rfl⟩; rfl) ?_)
  rintro _ _ ⟨rfl, rfl⟩
  refine At.gy (t := 12) rfl rfl rfl rfl ?_
  refine At.p (some 15) (P_not rfl rfl) ?_
  refine At.p (some 16) (P_pick_t rfl rfl rfl rfl) ?_
  refine At.nil ?_
  refine At.next ?_
  refine At.cond rfl (fun h16 => by exfalso; first | (simp at h16; done) | (simp at h16; omega)) (fun h16 => ?_)
  refine At.skip ?_
  refine At.next ?_
  refine At.seq ?_
  refine At.region ?_
  refine At.p (some 20) (P_move rfl rfl) ?_
  refine At.p (some 21) (P_move rfl rfl) ?_
  refine At.s (S_callR (some 22) [(0, _)] [(1, _)] [0] (vs := [_, _]) rfl en100 rfl (ON rfl rfl O0) (by simp) (VN (by simp) rfl View.all V0) (by simp) (c_take4 (br := br) (lr := lr) (Ar := Ar) (nr := nr) (cr := cr) (bbr := bbr) (qr := qr) LN hAr OG OG) (by rintro _ _ ⟨rfl, rfl⟩; rfl) ?_)
  rintro _ _ ⟨rfl, rfl⟩
  refine At.p (some 19) (P_move rfl rfl) ?_
  refine At.p (some 23) (P_extract rfl rfl rfl) ?_
  refine At.p (some 24) (P_extract rfl rfl rfl) ?_
  refine At.p (some 5) (P_assign rfl rfl) ?_
  refine At.p (some 6) (P_assign rfl rfl) ?_
  refine At.nil ?_
  refine At.next ?_
  refine At.seq ?_
  refine At.seq ?_
  refine At.region ?_
  refine At.p (some 25) (P_move rfl rfl) ?_
  refine At.p (some 26) (P_not rfl rfl) ?_
  refine At.nil ?_
  refine At.next ?_
  refine At.cond rfl (fun h26 => by exfalso; first | (simp at h26; done) | (simp at h26; omega)) (fun h26 => ?_)
  refine At.skip ?_
  refine At.next ?_
  refine At.seq ?_
  refine At.region ?_
  refine At.p (some 7) (P_assign rfl rfl) ?_
  refine At.nil ?_
  refine At.next ?_
  refine At.seq ?_
  refine At.seq ?_
  refine At.region ?_
  refine At.p (some 27) (P_move rfl rfl) ?_
  refine At.p (some 28) (P_len_sl rfl rfl ⟨_, Try.underlying22⟩ rfl) ?_
  refine At.p (some 29) (P_move rfl rfl) ?_
  refine At.nil ?_
  refine At.next ?_
  refine At.block ?_
  refine At.loopx (I := fun m fr H => ∃ (i : Nat), m = 4 - i ∧ fr = frOf [(0, ptr br 0), (1, iV 4), (4, iV 0), (5, .slice (cut Ar 0 4 1) (4 - 0) (4 - 0)), (6, .bool true), (7, iV ((beN ((lr.take 4).take i) 0) : Int)), (10, ptr br 0), (11, .bool true), (12, .bool true), (13, iV 4), (14, .bool true), (15, .bool (!true)), (16, .bool (!true)), (19, .tuple #[.slice (cut Ar 0 4 1) (4 - 0) (4 - 0), .bool true]), (20, ptr br 0), (21, iV 4), (22, .tuple #[.slice (cut Ar 0 4 1) (4 - 0) (4 - 0), .bool true]), (23, .slice (cut Ar 0 4 1) (4 - 0) (4 - 0)), (24, .bool true), (25, .bool true), (26, .bool (!true)), (27, .slice (cut Ar 0 4 1) (4 - 0) (4 - 0)), (28, iV ((4 - 0) : Int)), (29, iV (i : Int))] ∧ H = hOf [(0, ⟨true, br, 0, 146, [.slice (cut Ar 4 cr 1) (nr - 4) (cr - 4), iV 0], 0⟩), (1, pRow bbr qr lr)] ∧ (i ≤ 4)) ?_ ?_
  · intro Kc0 hKc0
    refine At.to [(0, _), (1, _), (4, _), (5, _), (6, _), (7, iV ((beN ((lr.take 4).take 0) 0) : Int)), (10, _), (11, _), (12, _), (13, _), (14, _), (15, _), (16, _), (19, _), (20, _), (21, _), (22, _), (23, _), (24, _), (25, _), (26, _), (27, _), (28, _), (29, _)] [(0, _), (1, _)] (AllL.cons_ (rfl) (AllL.cons_ (rfl) (AllL.cons_ (rfl) (AllL.cons_ (rfl) (AllL.cons_ (rfl) (AllL.cons_ (rfl) (AllL.cons_ (rfl) (AllL.cons_ (rfl) (AllL.cons_ (rfl) (AllL.cons_ (rfl) (AllL.cons_ (rfl) (AllL.cons_ (rfl) (AllL.cons_ (rfl) (AllL.cons_ (rfl) (AllL.cons_ (rfl) (AllL.cons_ (rfl) (AllL.cons_ (rfl) (AllL.cons_ (rfl) (AllL.cons_ (rfl) (AllL.cons_ (rfl) (AllL.cons_ (rfl) (AllL.cons_ (rfl) (AllL.cons_ (rfl) (AllL.cons_ (rfl) trivial)))))))))))))))))))))))) (AllL.cons_ (rfl) (AllL.cons_ (rfl) trivial)) ?_
    exact hKc0 _ _ _ ⟨0, rfl, rfl, rfl, (by omega)⟩
  · rintro m fr H ⟨i, rfl, rfl, rfl, hi⟩ Kc0 hKc0
    have hb4 := beN_le4 (l := (lr.take 4).take i) (by simp; omega)
    refine At.seq ?_
    refine At.region ?_
    refine At.p (some 30) (P_cmp rfl rfl rfl rfl rfl rfl) ?_
    refine At.nil ?_
    refine At.next ?_
    refine At.seq ?_
    refine At.cond rfl (fun h30 => ?_) (fun h30 => ?_)
    · -- cond 30 t
      have e30 : (i : Int) < ((4 - 0) : Int) := of_decide_eq_true h30
      refine At.skip ?_
      refine At.next ?_
      refine At.seq ?_
      refine At.block ?_
      refine At.seq ?_
      refine At.region ?_
      refine At.p (some 31) (P_indexAddr_sl1 (b := bbr) (m := qr) (j := i) rfl Try.underlying22 sz5 rfl ((fun h => cut_zero (hAr (by omega))) OG) rfl RO OG) ?_
      refine At.q (some 32) (Q_loadR (k := 1) (f := u8V) (l := lr) (j := i) (0#8) rfl rfl Try.underlying5 rfl rfl rfl OG) ?_
      refine At.p (some 9) (P_assign rfl rfl) ?_
      refine At.nil ?_
      refine At.next ?_
      refine At.region ?_
      refine At.p (some 33) (P_move rfl rfl) ?_
      refine At.p (some 34) (P_shl_i rfl rfl rfl (by decide) (by decide) (shl8 hb4)) ?_
      refine At.p (some 35) (P_move rfl rfl) ?_
      refine At.p (some 36) (P_conv_wi UK.u8 (by decide) rfl Try.underlying5 Try.underlying3 rfl) ?_
      refine At.p (some 37) (P_or_i8 (a := beN ((lr.take 4).take i) 0) (c := (lr.getD i 0#8).toNat) rfl rfl rfl (by omega) (lr.getD i 0#8).isLt) ?_
      refine At.p (some 7) (P_assign rfl rfl) ?_
      refine At.nil ?_
      refine At.inb_n ?_
      refine At.next ?_
      refine At.region ?_
      refine At.p (some 38) (P_add_i rfl rfl rfl (by omega)) ?_
      refine At.p (some 29) (P_move rfl rfl) ?_
      refine At.nil ?_
      refine At.next ?_
      refine At.to [(0, _), (1, _), (4, _), (5, _), (6, _), (7, iV ((beN ((lr.take 4).take (i + 1)) 0) : Int)), (10, _), (11, _), (12, _), (13, _), (14, _), (15, _), (16, _), (19, _), (20, _), (21, _), (22, _), (23, _), (24, _), (25, _), (26, _), (27, _), (28, _), (29, _)] [(0, _), (1, _)] (AllL.cons_ (rfl) (AllL.cons_ (rfl) (AllL.cons_ (rfl) (AllL.cons_ (rfl) (AllL.cons_ (rfl) (AllL.cons_ ((congrArg (fun z : Nat => some (iV (z : Int))) (beN_step (l := lr) (w := 4) (k := i) (by omega) (by omega)).symm)) (AllL.cons_ (rfl) (AllL.cons_ (rfl) (AllL.cons_ (rfl) (AllL.cons_ (rfl) (AllL.cons_ (rfl) (AllL.cons_ (rfl) (AllL.cons_ (rfl) (AllL.cons_ (rfl) (AllL.cons_ (rfl) (AllL.cons_ (rfl) (AllL.cons_ (rfl) (AllL.cons_ (rfl) (AllL.cons_ (rfl) (AllL.cons_ (rfl) (AllL.cons_ (rfl) (AllL.cons_ (rfl) (AllL.cons_ (rfl) (AllL.cons_ (rfl) trivial)))))))))))))))))))))))) (AllL.cons_ (rfl) (AllL.cons_ (rfl) trivial)) ?_
      exact hKc0 _ _ _ (by omega) ⟨i + 1, rfl, rfl, rfl, (by omega)⟩
    · -- cond 30 f
      have e30 : ¬ (i : Int) < ((4 - 0) : Int) := of_decide_eq_false h30
      refine At.exit ?_
      refine At.thn_e ?_
      refine At.thn_e ?_
      refine At.inb_hit ?_
      refine At.next ?_
      refine At.seq ?_
      refine At.region ?_
      refine At.p (some 39) (P_move rfl rfl) ?_
      refine At.p (some 4) (P_assign rfl rfl) ?_
      refine At.nil ?_
      refine At.next ?_
      refine At.ret ?_
      have hq0 : (((beN ((lr.take 4).take i) 0) : Int) : Int) = ((beN (lr.take 4) 0 : Nat) : Int) := (by rw [show i = 4 by omega, List.take_of_length_le (by simp; omega)])
      refine At.give (.inl rfl) [0] (rows' := [_]) (vs := [_]) rfl ⟨rfl, trivial⟩ rfl (by simp) (by simp) ⟨(by first | (rw [hq0]; try rfl; done) | (rw [← hq0]; try rfl; done) | (simp only [hq0]; try rfl; done) | (simp only [← hq0]; try rfl; done) | rfl), (by first | (rw [hq0]; try rfl; done) | (rw [← hq0]; try rfl; done) | (simp only [hq0]; try rfl; done) | (simp only [← hq0]; try rfl; done) | rfl)⟩

set_option maxHeartbeats 2000000 in
theorem c_Uint2 {br nr cr bbr qr : Nat} {lr : List (BitVec 8)} {Ar : Option Addr} (hnr : lr.length = nr) (hAr : 0 < nr → Ar = some ⟨bbr, qr, none⟩) (hcr : nr ≤ cr) (hw : 2 ≤ nr) :
    Con Try.prog 73 [ptr br 0, iV 2] [⟨true, br, 0, 146, [.slice Ar nr cr, iV 0], 0⟩, pRow bbr qr lr] (fun v rs => v = iV ((beN (lr.take 2) 0 : Nat) : Int) ∧ rs = [⟨true, br, 0, 146, [.slice (cut Ar 2 cr 1) (nr - 2) (cr - 2), iV 0], 0⟩]) := by
  refine Con.enter Try.func73 Try.ntmps73 (Nat.le_of_ble_eq_true rfl) rfl fun w => ?_
  refine At.seq ?_
  refine At.region ?_
  refine At.p (some 4) (P_assign rfl rfl) ?_
  refine At.nil ?_
  refine At.next ?_
  refine At.seq ?_
  refine At.seq ?_
  refine At.region ?_
  refine At.p (some 10) (P_move rfl rfl) ?_
  refine At.p (some 11) (P_neq_ptr rfl rfl rfl Try.underlying110) ?_
  refine At.p (some 12) (P_move rfl rfl) ?_
  refine At.gy (t := 12) rfl rfl rfl rfl ?_
  refine At.p (some 13) (P_move rfl rfl) ?_
  refine At.gy (t := 12) rfl rfl rfl rfl ?_
  refine At.s (S_callV (some 14) [] [] (vs := [_]) rfl en98 rfl V0 (by simp) (c_right2) (by rintro _ _ ⟨rfl, rfl⟩; rfl) ?_)
  rintro _ _ ⟨rfl, rfl⟩
  refine At.gy (t := 12) rfl rfl rfl rfl ?_
  refine At.p (some 15) (P_not rfl rfl) ?_
  refine At.p (some 16) (P_pick_t rfl rfl rfl rfl) ?_
  refine At.nil ?_
  refine At.next ?_
  refine At.cond rfl (fun h16 => by exfalso; first | (simp at h16; done) | (simp at h16; omega)) (fun h16 => ?_)
  refine At.skip ?_
  refine At.next ?_
  refine At.seq ?_
  refine At.region ?_
  refine At.p (some 20) (P_move rfl rfl) ?_
  refine At.p (some 21) (P_move rfl rfl) ?_
  refine At.s (S_callR (some 22) [(0, _)] [(1, _)] [0] (vs := [_, _]) rfl en100 rfl (ON rfl rfl O0) (by simp) (VN (by simp) rfl View.all V0) (by simp) (c_take2 (br := br) (lr := lr) (Ar := Ar) (nr := nr) (cr := cr) (bbr := bbr) (qr := qr) LN hAr OG OG) (by rintro _ _ ⟨rfl, rfl⟩; rfl) ?_)
  rintro _ _ ⟨rfl, rfl⟩
  refine At.p (some 19) (P_move rfl rfl) ?_
  refine At.p (some 23) (P_extract rfl rfl rfl) ?_
  refine At.p (some 24) (P_extract rfl rfl rfl) ?_
  refine At.p (some 5) (P_assign rfl rfl) ?_
  refine At.p (some 6) (P_assign rfl rfl) ?_
  refine At.nil ?_
  refine At.next ?_
  refine At.seq ?_
  refine At.seq ?_
  refine At.region ?_
  refine At.p (some 25) (P_move rfl rfl) ?_
  refine At.p (some 26) (P_not rfl rfl) ?_
  refine At.nil ?_
  refine At.next ?_
  refine At.cond rfl (fun h26 => by exfalso; first | (simp at h26; done) | (simp at h26; omega)) (fun h26 => ?_)
  refine At.skip ?_
  refine At.next ?_
  refine At.seq ?_
  refine At.region ?_
  refine At.p (some 7) (P_assign rfl rfl) ?_
  refine At.nil ?_
  refine At.next ?_
  refine At.seq ?_
  refine At.seq ?_
  refine At.region ?_
  refine At.p (some 27) (P_move rfl rfl) ?_
  refine At.p (some 28) (P_len_sl rfl rfl ⟨_, Try.underlying22⟩ rfl) ?_
  refine At.p (some 29) (P_move rfl rfl) ?_
  refine At.nil ?_
  refine At.next ?_
  refine At.block ?_
  refine At.loopx (I := fun m fr H => ∃ (i : Nat), m = 2 - i ∧ fr = frOf [(0, ptr br 0), (1, iV 2), (4, iV 0), (5, .slice (cut Ar 0 2 1) (2 - 0) (2 - 0)), (6, .bool true), (7, iV ((beN ((lr.take 2).take i) 0) : Int)), (10, ptr br 0), (11, .bool true), (12, .bool true), (13, iV 2), (14, .bool true), (15, .bool (!true)), (16, .bool (!true)), (19, .tuple #[.slice (cut Ar 0 2 1) (2 - 0) (2 - 0), .bool true]), (20, ptr br 0), (21, iV 2), (22, .tuple #[.slice (cut Ar 0 2 1) (2 - 0) (2 - 0), .bool true]), (23, .slice (cut Ar 0 2 1) (2 - 0) (2 - 0)), (24, .bool true), (25, .bool true), (26, .bool (!true)), (27, .slice (cut Ar 0 2 1) (2 - 0) (2 - 0)), (28, iV ((2 - 0) : Int)), (29, iV (i : Int))] ∧ H = hOf [(0, ⟨true, br, 0, 146, [.slice (cut Ar 2 cr 1) (nr - 2) (cr - 2), iV 0], 0⟩), (1, pRow bbr qr lr)] ∧ (i ≤ 2)) ?_ ?_
  · intro Kc0 hKc0
    refine At.to [(0, _), (1, _), (4, _), (5, _), (6, _), (7, iV ((beN ((lr.take 2).take 0) 0) : Int)), (10, _), (11, _), (12, _), (13, _), (14, _), (15, _), (16, _), (19, _), (20, _), (21, _), (22, _), (23, _), (24, _), (25, _), (26, _), (27, _), (28, _), (29, _)] [(0, _), (1, _)] (AllL.cons_ (rfl) (AllL.cons_ (rfl) (AllL.cons_ (rfl) (AllL.cons_ (rfl) (AllL.cons_ (rfl) (AllL.cons_ (rfl) (AllL.cons_ (rfl) (AllL.cons_ (rfl) (AllL.cons_ (rfl) (AllL.cons_ (rfl) (AllL.cons_ (rfl) (AllL.cons_ (rfl) (AllL.cons_ (rfl) (AllL.cons_ (rfl) (AllL.cons_ (rfl) (AllL.cons_ (rfl) (AllL.cons_ (rfl) (AllL.cons_ (rfl) (AllL.cons_ (rfl) (AllL.cons_ (rfl) (AllL.cons_ (rfl) (AllL.cons_ (rfl) (AllL.cons_ (rfl) (AllL.cons_ (rfl) trivial)))))))))))))))))))))))) (AllL.cons_ (rfl) (AllL.cons_ (rfl) trivial)) ?_
    exact hKc0 _ _ _ ⟨0, rfl, rfl, rfl, (by omega)⟩
  · rintro m fr H ⟨i, rfl, rfl, rfl, hi⟩ Kc0 hKc0
    have hb4 := beN_le4 (l := (lr.take 2).take i) (by simp; omega)
    refine At.seq ?_
    refine At.region ?_
    refine At.p (some 30) (P_cmp rfl rfl rfl rfl rfl rfl) ?_
    refine At.nil ?_
    refine At.next ?_
    refine At.seq ?_
    refine At.cond rfl (fun h30 => ?_) (fun h30 => ?_)
    · -- cond 30 t
      have e30 : (i : Int) < ((2 - 0) : Int) := of_decide_eq_true h30
      refine At.skip ?_
      refine At.next ?_
      refine At.seq ?_
      refine At.block ?_
      refine At.seq ?_
      refine At.region ?_
      refine At.p (some 31) (P_indexAddr_sl1 (b := bbr) (m := qr) (j := i) rfl Try.underlying22 sz5 rfl ((fun h => cut_zero (hAr (by omega))) OG) rfl RO OG) ?_
      refine At.q (some 32) (Q_loadR (k := 1) (f := u8V) (l := lr) (j := i) (0#8) rfl rfl Try.underlying5 rfl rfl rfl OG) ?_
      refine At.p (some 9) (P_assign rfl rfl) ?_
      refine At.nil ?_
      refine At.next ?_
      refine At.region ?_
      refine At.p (some 33) (P_move rfl rfl) ?_
      refine At.p (some 34) (P_shl_i rfl rfl rfl (by decide) (by decide) (shl8 hb4)) ?_
      refine At.p (some 35) (P_move rfl rfl) ?_
      refine At.p (some 36) (P_conv_wi UK.u8 (by decide) rfl Try.underlying5 Try.underlying3 rfl) ?_
      refine At.p (some 37) (P_or_i8 (a := beN ((lr.take 2).take i) 0) (c := (lr.getD i 0#8).toNat) rfl rfl rfl (by omega) (lr.getD i 0#8).isLt) ?_
      refine At.p (some 7) (P_assign rfl rfl) ?_
      refine At.nil ?_
      refine At.inb_n ?_
      refine At.next ?_
      refine At.region ?_
      refine At.p (some 38) (P_add_i rfl rfl rfl (by omega)) ?_
      refine At.p (some 29) (P_move rfl rfl) ?_
      refine At.nil ?_
      refine At.next ?_
      refine At.to [(0, _), (1, _), (4, _), (5, _), (6, _), (7, iV ((beN ((lr.take 2).take (i + 1)) 0) : Int)), (10, _), (11, _), (12, _), (13, _), (14, _), (15, _), (16, _), (19, _), (20, _), (21, _), (22, _), (23, _), (24, _), (25, _), (26, _), (27, _), (28, _), (29, _)] [(0, _), (1, _)] (AllL.cons_ (rfl) (AllL.cons_ (rfl) (AllL.cons_ (rfl) (AllL.cons_ (rfl) (AllL.cons_ (rfl) (AllL.cons_ ((congrArg (fun z : Nat => some (iV (z : Int))) (beN_step (l := lr) (w := 2) (k := i) (by omega) (by omega)).symm)) (AllL.cons_ (rfl) (AllL.cons_ (rfl) (AllL.cons_ (rfl) (AllL.cons_ (rfl) (AllL.cons_ (rfl) (AllL.cons_ (rfl) (AllL.cons_ (rfl) (AllL.cons_ (rfl) (AllL.cons_ (rfl) (AllL.cons_ (rfl) (AllL.cons_ (rfl) (AllL.cons_ (rfl) (AllL.cons_ (rfl) (AllL.cons_ (rfl) (AllL.cons_ (rfl) (AllL.cons_ (rfl) (AllL.cons_ (rfl) (AllL.cons_ (rfl) trivial)))))))))))))))))))))))) (AllL.cons_ (rfl) (AllL.cons_ (rfl) trivial)) ?_
      exact hKc0 _ _ _ (by omega) ⟨i + 1, rfl, rfl, rfl, (by omega)⟩
    · -- cond 30 f
      have e30 : ¬ (i : Int) < ((2 - 0) : Int) := of_decide_eq_false h30
      refine At.exit ?_
      refine At.thn_e ?_
      refine At.thn_e ?_
      refine At.inb_hit ?_
      refine At.next ?_
      refine At.seq ?_
      refine At.region ?_
      refine At.p (some 39) (P_move rfl rfl) ?_
      refine At.p (some 4) (P_assign rfl rfl) ?_
      refine At.nil ?_
      refine At.next ?_
      refine At.ret ?_
      have hq0 : (((beN ((lr.take 2).take i) 0) : Int) : Int) = ((beN (lr.take 2) 0 : Nat) : Int) := (by rw [show i = 2 by omega, List.take_of_length_le (by simp; omega)])
      refine At.give (.inl rfl) [0] (rows' := [_]) (vs := [_]) rfl ⟨rfl, trivial⟩ rfl (by simp) (by simp) ⟨(by first | (rw [hq0]; try rfl; done) | (rw [← hq0]; try rfl; done) | (simp only [hq0]; try rfl; done) | (simp only [← hq0]; try rfl; done) | rfl), (by first | (rw [hq0]; try rfl; done) | (rw [← hq0]; try rfl; done) | (simp only [hq0]; try rfl; done) | (simp only [← hq0]; try rfl; done) | rfl)⟩

set_option maxHeartbeats 2000000 in
theorem c_New {b : List (BitVec 8)} {Ab : Option Addr} {nb cb bb qb : Nat} (hnb : b.length = nb) (hAb : 0 < nb → Ab = some ⟨bb, qb, none⟩) (hl : nb ≤ 1000000) :
    Con Try.prog 72 [.slice Ab nb cb] [pRow bb qb b] (fun v rs => ∃ (A' : Option Addr) (b' c' br : Nat), (0 < c' → A' = some ⟨b', 0, none⟩) ∧ b.length ≤ c' ∧ v = ptr br 0 ∧ rs = [⟨true, br, 0, 146, [.slice A' b.length c', iV 0], 0⟩, ⟨true, b', 0, 5, b.map u8V, c' - b.length⟩]) := by
  refine Con.enter Try.func72 Try.ntmps72 (Nat.le_of_ble_eq_true rfl) rfl fun w => ?_
  refine At.seq ?_
  refine At.region ?_
  refine At.p (some 2) (P_assign rfl rfl) ?_
  refine At.nil ?_
  refine At.next ?_
  refine At.seq ?_
  refine At.region ?_
  refine At.p (some 3) (P_move rfl rfl) ?_
  refine At.s (S_callV (some 4) [(0, _)] [4] (vs := [_]) rfl en97 rfl (VN (by simp) rfl View.all V0) (by simp) (c_BClone (b := b) (nb := nb) (Ab := Ab) (cb := cb) (bb := bb) (qb := qb) LN hAb OG) (by rintro _ _ ⟨A4, b4, c4, g4a, g4b, rfl, rfl⟩; rfl) ?_)
  rintro _ _ ⟨A4, b4, c4, g4a, g4b, rfl, rfl⟩
  refine At.p (some 5) (P_build_struct (parts := _) (vs := [(0, _)]) rfl Try.underlying146 ze146 pl146 rfl rfl) ?_
  refine At.s (S_box (some 6) 6 (zs := [.slice A4 b.length c4, iV 0]) rfl rfl rfl (fun b6 => ?_))
  refine At.p (some 2) (P_assign rfl rfl) ?_
  refine At.nil ?_
  refine At.next ?_
  refine At.ret ?_
  refine At.give (.inl rfl) [6, 4] (rows' := [_, _]) (vs := [_]) rfl ⟨rfl, trivial⟩ rfl (by simp) (by simp) ⟨A4, b4, c4, b6, g4a, g4b, rfl, rfl⟩

set_option maxHeartbeats 2000000 in
theorem c_Read {b : List (BitVec 8)} {Ab : Option Addr} {nb cb bb qb : Nat} (hnb : b.length = nb) (hAb : 0 < nb → Ab = some ⟨bb, qb, none⟩) (hl : nb ≤ 1000000) :
    Con Try.prog 48 [.slice Ab nb cb] [pRow bb qb b] (fun v rs => v = .tuple #[.agg ([iV (rdC b), iV (rdN b), iV (rdG b)]).toArray, iV (rdE b)] ∧ rs = []) := by
  refine Con.enter Try.func48 Try.ntmps48 (Nat.le_of_ble_eq_true rfl) rfl fun w => ?_
  refine At.seq ?_
  refine At.region ?_
  refine At.s (S_alloc (some 2) 2 (zs := [iV 0, iV 0, iV 0]) rfl ze78 rfl (fun b2 => ?_))
  refine At.p (some 3) (P_assign rfl rfl) ?_
  refine At.nil ?_
  refine At.next ?_
  refine At.seq ?_
  refine At.block ?_
  refine At.seq ?_
  refine At.region ?_
  refine At.p (some 7) (P_move rfl rfl) ?_
  refine At.p (some 8) (P_len_sl rfl rfl ⟨_, Try.underlying22⟩ rfl) ?_
  refine At.p (some 9) (P_cmp rfl rfl rfl rfl rfl rfl) ?_
  refine At.p (some 6) (P_assign rfl rfl) ?_
  refine At.nil ?_
  refine At.next ?_
  refine At.cond rfl (fun h6 => ?_) (fun h6 => ?_)
  · -- cond 6 t
    have e6 : (nb : Int) < 26 := of_decide_eq_true h6
    refine At.seq ?_
    refine At.region ?_
    refine At.p (some 10) (P_build_struct (parts := _) (vs := []) rfl Try.underlying78 ze78 pl78 rfl rfl) ?_
    refine At.s (S_storeA none (k := 2) (vs := [iV 0, iV 0, iV 0]) rfl rfl rfl (by rw [sz78]; exact congrArg some LN) rfl (one_cons rfl (one_cons rfl (one_cons rfl one_nil))) NG rfl LN ?_)
    refine At.p (some 3) (P_assign rfl rfl) ?_
    refine At.nil ?_
    refine At.next ?_
    refine At.ret ?_
    refine At.inb_r ?_
    refine At.thn_r ?_
    obtain ⟨z0, z1, z2, z3⟩ := rd_short (b := b) (by omega)
    have hq0 : [iV 0, iV 0, iV 0] = [iV (rdC b), iV (rdN b), iV (rdG b)] := (by rw [z1, z2, z3])
    have hq1 : (2 : Int) = rdE b := z0.symm
    refine At.giveV (.inl rfl) [] (rows' := []) (ResV.two rfl (ResOne.cellA (k := 2) rfl Try.underlying78 rfl sz78 LN rfl) (ResOne.tmp rfl)) rfl (by simp) (by simp) ?_
    exact ⟨(by first | (rw [hq0, hq1]; try rfl; done) | (rw [← hq0, ← hq1]; try rfl; done) | (simp only [hq0, hq1]; try rfl; done) | (simp only [← hq0, ← hq1]; try rfl; done) | rfl), (by first | (rw [hq0, hq1]; try rfl; done) | (rw [← hq0, ← hq1]; try rfl; done) | (simp only [hq0, hq1]; try rfl; done) | (simp only [← hq0, ← hq1]; try rfl; done) | rfl)⟩
  · -- cond 6 f
    have e6 : ¬ (nb : Int) < 26 := of_decide_eq_false h6
    refine At.seq ?_
    refine At.region ?_
    refine At.p (some 12) (P_move rfl rfl) ?_
    refine At.p (some 13) (P_len_sl rfl rfl ⟨_, Try.underlying22⟩ rfl) ?_
    refine At.p (some 14) (P_cmp rfl rfl rfl rfl rfl rfl) ?_
    refine At.p (some 11) (P_assign rfl rfl) ?_
    refine At.nil ?_
    refine At.next ?_
    refine At.cond rfl (fun h11 => ?_) (fun h11 => ?_)
    · -- cond 11 t
      have e11 : (nb : Int) > 30026 := of_decide_eq_true h11
      refine At.seq ?_
      refine At.region ?_
      refine At.p (some 15) (P_build_struct (parts := _) (vs := []) rfl Try.underlying78 ze78 pl78 rfl rfl) ?_
      refine At.s (S_storeA none (k := 2) (vs := [iV 0, iV 0, iV 0]) rfl rfl rfl (by rw [sz78]; exact congrArg some LN) rfl (one_cons rfl (one_cons rfl (one_cons rfl one_nil))) NG rfl LN ?_)
      refine At.p (some 3) (P_assign rfl rfl) ?_
      refine At.nil ?_
      refine At.next ?_
      refine At.ret ?_
      refine At.inb_r ?_
      refine At.thn_r ?_
      obtain ⟨z0, z1, z2, z3⟩ := rd_long (b := b) (by omega) (by omega)
      have hq0 : [iV 0, iV 0, iV 0] = [iV (rdC b), iV (rdN b), iV (rdG b)] := (by rw [z1, z2, z3])
      have hq1 : (3 : Int) = rdE b := z0.symm
      refine At.giveV (.inl rfl) [] (rows' := []) (ResV.two rfl (ResOne.cellA (k := 2) rfl Try.underlying78 rfl sz78 LN rfl) (ResOne.tmp rfl)) rfl (by simp) (by simp) ?_
      exact ⟨(by first | (rw [hq0, hq1]; try rfl; done) | (rw [← hq0, ← hq1]; try rfl; done) | (simp only [hq0, hq1]; try rfl; done) | (simp only [← hq0, ← hq1]; try rfl; done) | rfl), (by first | (rw [hq0, hq1]; try rfl; done) | (rw [← hq0, ← hq1]; try rfl; done) | (simp only [hq0, hq1]; try rfl; done) | (simp only [← hq0, ← hq1]; try rfl; done) | rfl)⟩
    · -- cond 11 f
      have e11 : ¬ (nb : Int) > 30026 := of_decide_eq_false h11
      refine At.skip ?_
      refine At.inb_n ?_
      refine At.next ?_
      refine At.seq ?_
      refine At.region ?_
      refine At.p (some 16) (P_move rfl rfl) ?_
      refine At.s (S_callV (some 17) [(0, _)] [17, 1017] (vs := [_]) rfl en72 rfl (VN (by simp) rfl View.all V0) (by simp) (c_New (b := b) (nb := nb) (Ab := Ab) (cb := cb) (bb := bb) (qb := qb) LN hAb OG) (by rintro _ _ ⟨A17, b17, c17, p17, g17a, g17b, rfl, rfl⟩; rfl) ?_)
      rintro _ _ ⟨A17, b17, c17, p17, g17a, g17b, rfl, rfl⟩
      refine At.p (some 4) (P_assign rfl rfl) ?_
      refine At.nil ?_
      refine At.next ?_
      refine At.seq ?_
      refine At.region ?_
      refine At.p (some 18) (P_move rfl rfl) ?_
      refine At.s (S_callR (some 19) [(17, _)] [(1017, _)] [17] (vs := [_, _]) rfl en73 rfl (ON rfl rfl O0) (by simp) (VN (by simp) rfl View.all V0) (by simp) (c_Uint4 (br := p17) (lr := b) (Ar := A17) (nr := b.length) (cr := c17) (bbr := b17) (qr := 0) LN (fun h => g17a (by omega)) OG OG) (by rintro _ _ ⟨rfl, rfl⟩; rfl) ?_)
      rintro _ _ ⟨rfl, rfl⟩
      have q19 : (((beN (b.take 4) 0 : Nat) : Int) : Int) = numI b 0 4 := (by simp [numI])
      simp only [q19]
      refine At.p (some 20) (P_move rfl rfl) ?_
      refine At.s (S_callR (some 21) [(17, _)] [(1017, _)] [17] (vs := [_, _]) rfl en73 rfl (ON rfl rfl O0) (by simp) (VN (by simp) rfl (View.sub (j := 4) (m := (b.length - 4)) rfl rfl) V0) (by simp) (c_Uint2 (br := p17) (lr := ((b.drop 4).take (b.length - 4))) (Ar := (cut A17 4 c17 1)) (nr := (b.length - 4)) (cr := (c17 - 4)) (bbr := b17) (qr := (0 + 4)) LN (fun h => cut_addr1 ((fun h => g17a (by omega)) (by omega)) (by omega)) OG OG) (by rintro _ _ ⟨rfl, rfl⟩; rfl) ?_)
      rintro _ _ ⟨rfl, rfl⟩
      have q21 : (((beN (((b.drop 4).take (b.length - 4)).take 2) 0 : Nat) : Int) : Int) = numI b 4 2 := (by simp only [numI]; rw [List.take_of_length_le (l := b.drop 4) (by rw [List.length_drop]; omega)])
      simp only [q21]
      refine At.p (some 22) (P_move rfl rfl) ?_
      refine At.s (S_callR (some 23) [(17, _)] [(1017, _)] [17] (vs := [_, _]) rfl en73 rfl (ON rfl rfl O0) (by simp) (VN (by simp) rfl (View.sub (j := (4 + 2)) (m := ((b.length - 4) - 2)) rfl rfl) V0) (by simp) (c_Uint4 (br := p17) (lr := ((b.drop (4 + 2)).take ((b.length - 4) - 2))) (Ar := (cut (cut A17 4 c17 1) 2 (c17 - 4) 1)) (nr := ((b.length - 4) - 2)) (cr := ((c17 - 4) - 2)) (bbr := b17) (qr := ((0 + 4) + 2)) LN (fun h => cut_addr1 ((fun h => cut_addr1 ((fun h => g17a (by omega)) (by omega)) (by omega)) (by omega)) (by omega)) OG OG) (by rintro _ _ ⟨rfl, rfl⟩; rfl) ?_)
      rintro _ _ ⟨rfl, rfl⟩
      have q23 : (((beN (((b.drop (4 + 2)).take ((b.length - 4) - 2)).take 4) 0 : Nat) : Int) : Int) = numI b 6 4 := (by simp only [numI]; rw [List.take_of_length_le (l := b.drop (4 + 2)) (by rw [List.length_drop]; omega)])
      simp only [q23]
      refine At.p (some 24) (P_build_struct (parts := _) (vs := [(0, _), (1, _), (2, _)]) rfl Try.underlying78 ze78 pl78 rfl rfl) ?_
      refine At.s (S_alloc (some 5) 5 (zs := [iV 0, iV 0, iV 0]) rfl ze78 rfl (fun b5 => ?_))
      refine At.s (S_storeA none (k := 5) (vs := [iV (numI b 0 4), iV (numI b 4 2), iV (numI b 6 4)]) rfl rfl rfl (by rw [sz78]; exact congrArg some LN) rfl (one_cons rfl (one_cons rfl (one_cons rfl one_nil))) NG rfl LN ?_)
      refine At.nil ?_
      refine At.next ?_
      refine At.seq ?_
      refine At.seq ?_
      refine At.region ?_
      refine At.q (some 25) (Q_loadA (k := 5) rfl rfl Try.underlying78 rfl sz78 LN rfl) ?_
      refine At.s (S_callV (some 26) [] [] (vs := [_]) rfl en66 rfl V0 (by simp) (c_nright (c := (numI b 0 4)) (n := (numI b 4 2)) (g := (numI b 6 4)) ) (by rintro _ _ ⟨rfl, rfl⟩; rfl) ?_)
      rintro _ _ ⟨rfl, rfl⟩
      refine At.p (some 27) (P_not rfl rfl) ?_
      refine At.nil ?_
      refine At.next ?_
      refine At.cond rfl (fun h27 => ?_) (fun h27 => ?_)
      · -- cond 27 t
        have e27 : nrB (numI b 0 4) (numI b 4 2) (numI b 6 4) = false := (by first | (simp; done) | simpa using h27)
        refine At.seq ?_
        refine At.region ?_
        refine At.p (some 28) (P_build_struct (parts := _) (vs := []) rfl Try.underlying78 ze78 pl78 rfl rfl) ?_
        refine At.s (S_storeA none (k := 2) (vs := [iV 0, iV 0, iV 0]) rfl rfl rfl (by rw [sz78]; exact congrArg some LN) rfl (one_cons rfl (one_cons rfl (one_cons rfl one_nil))) NG rfl LN ?_)
        refine At.p (some 3) (P_assign rfl rfl) ?_
        refine At.nil ?_
        refine At.next ?_
        refine At.ret ?_
        refine At.thn_r ?_
        obtain ⟨z0, z1, z2, z3⟩ := rd_bad (b := b) (by omega) (by omega) (by simpa using e27)
        have hq0 : [iV 0, iV 0, iV 0] = [iV (rdC b), iV (rdN b), iV (rdG b)] := (by rw [z1, z2, z3])
        have hq1 : (3 : Int) = rdE b := z0.symm
        refine At.giveV (.inl rfl) [] (rows' := []) (ResV.two rfl (ResOne.cellA (k := 2) rfl Try.underlying78 rfl sz78 LN rfl) (ResOne.tmp rfl)) rfl (by simp) (by simp) ?_
        exact ⟨(by first | (rw [hq0, hq1]; try rfl; done) | (rw [← hq0, ← hq1]; try rfl; done) | (simp only [hq0, hq1]; try rfl; done) | (simp only [← hq0, ← hq1]; try rfl; done) | rfl), (by first | (rw [hq0, hq1]; try rfl; done) | (rw [← hq0, ← hq1]; try rfl; done) | (simp only [hq0, hq1]; try rfl; done) | (simp only [← hq0, ← hq1]; try rfl; done) | rfl)⟩
      · -- cond 27 f
        have e27 : nrB (numI b 0 4) (numI b 4 2) (numI b 6 4) = true := (by first | (simp; done) | simpa using h27)
        refine At.skip ?_
        refine At.next ?_
        refine At.seq ?_
        refine At.region ?_
        refine At.q (some 29) (Q_loadA (k := 5) rfl rfl Try.underlying78 rfl sz78 LN rfl) ?_
        refine At.s (S_storeA none (k := 2) (vs := [iV (numI b 0 4), iV (numI b 4 2), iV (numI b 6 4)]) rfl rfl rfl (by rw [sz78]; exact congrArg some LN) rfl (one_cons rfl (one_cons rfl (one_cons rfl one_nil))) NG rfl LN ?_)
        refine At.p (some 3) (P_assign rfl rfl) ?_
        refine At.nil ?_
        refine At.next ?_
        refine At.ret ?_
        obtain ⟨z0, z1, z2, z3⟩ := rd_ok (b := b) (by omega) (by omega) (by simpa using e27)
        have hq0 : [iV (numI b 0 4), iV (numI b 4 2), iV (numI b 6 4)] = [iV (rdC b), iV (rdN b), iV (rdG b)] := (by rw [z1, z2, z3])
        have hq1 : (0 : Int) = rdE b := z0.symm
        refine At.giveV (.inl rfl) [] (rows' := []) (ResV.two rfl (ResOne.cellA (k := 2) rfl Try.underlying78 rfl sz78 LN rfl) (ResOne.tmp rfl)) rfl (by simp) (by simp) ?_
        exact ⟨(by first | (rw [hq0, hq1]; try rfl; done) | (rw [← hq0, ← hq1]; try rfl; done) | (simp only [hq0, hq1]; try rfl; done) | (simp only [← hq0, ← hq1]; try rfl; done) | rfl), (by first | (rw [hq0, hq1]; try rfl; done) | (rw [← hq0, ← hq1]; try rfl; done) | (simp only [hq0, hq1]; try rfl; done) | (simp only [← hq0, ← hq1]; try rfl; done) | rfl)⟩

set_option maxHeartbeats 2000000 in
theorem c_VOpen {key : List (BitVec 8)} {b : List (BitVec 8)} {Ab : Option Addr} {nb cb bb qb : Nat} (hkey : key.length = 32) (hnb : b.length = nb) (hAb : 0 < nb → Ab = some ⟨bb, qb, none⟩) (hcb : nb ≤ cb) (hl : nb ≤ 1000000) :
    Con Try.prog 47 [aggK key, .slice Ab nb cb] [pRow bb qb b] (fun v rs => ∃ (A'1 : Option Addr) (b'1 c'1 : Nat), (0 < c'1 → A'1 = some ⟨b'1, 0, none⟩) ∧ (opT key b).length ≤ c'1 ∧ v = .tuple #[.agg ([iV (opC key b), iV (opN key b), iV (opG key b)]).toArray, .slice A'1 (opT key b).length c'1, iV (opE key b)] ∧ rs = [⟨true, b'1, 0, 5, (opT key b).map u8V, c'1 - (opT key b).length⟩]) := by
  refine Con.enter Try.func47 Try.ntmps47 (Nat.le_of_ble_eq_true rfl) rfl fun w => ?_
  refine At.seq ?_
  refine At.region ?_
  refine At.s (S_box (some 2) 2 (zs := (key).map u8V) rfl rfl rfl (fun b2 => ?_))
  refine At.s (S_alloc (some 4) 4 (zs := [iV 0, iV 0, iV 0]) rfl ze78 rfl (fun b4 => ?_))
  refine At.p (some 5) (P_assign rfl rfl) ?_
  refine At.p (some 6) (P_assign rfl rfl) ?_
  refine At.nil ?_
  refine At.next ?_
  refine At.seq ?_
  refine At.region ?_
  refine At.p (some 11) (P_move rfl rfl) ?_
  refine At.s (S_callV (some 12) [(0, _)] [] (vs := [_]) rfl en48 rfl (VN (by simp) rfl View.all V0) (by simp) (c_Read (b := b) (nb := nb) (Ab := Ab) (cb := cb) (bb := bb) (qb := qb) LN hAb OG) (by rintro _ _ ⟨rfl, rfl⟩; rfl) ?_)
  rintro _ _ ⟨rfl, rfl⟩
  refine At.p (some 10) (P_move rfl rfl) ?_
  refine At.p (some 13) (P_extract rfl rfl rfl) ?_
  refine At.p (some 14) (P_extract rfl rfl rfl) ?_
  refine At.s (S_alloc (some 7) 7 (zs := [iV 0, iV 0, iV 0]) rfl ze78 rfl (fun b7 => ?_))
  refine At.s (S_storeA none (k := 7) (vs := [iV (rdC b), iV (rdN b), iV (rdG b)]) rfl rfl rfl (by rw [sz78]; exact congrArg some LN) rfl (one_cons rfl (one_cons rfl (one_cons rfl one_nil))) NG rfl LN ?_)
  refine At.p (some 8) (P_assign rfl rfl) ?_
  refine At.nil ?_
  refine At.next ?_
  refine At.seq ?_
  refine At.seq ?_
  refine At.region ?_
  refine At.p (some 15) (P_move rfl rfl) ?_
  refine At.p (some 16) (P_cmp rfl rfl rfl rfl rfl rfl) ?_
  refine At.nil ?_
  refine At.next ?_
  refine At.cond rfl (fun h16 => ?_) (fun h16 => ?_)
  · -- cond 16 t
    have e16 : (rdE b) ≠ 0 := bne_iff_ne.1 h16
    refine At.seq ?_
    refine At.region ?_
    refine At.p (some 17) (P_build_struct (parts := _) (vs := []) rfl Try.underlying78 ze78 pl78 rfl rfl) ?_
    refine At.p (some 18) (P_move rfl rfl) ?_
    refine At.s (S_storeA none (k := 4) (vs := [iV 0, iV 0, iV 0]) rfl rfl rfl (by rw [sz78]; exact congrArg some LN) rfl (one_cons rfl (one_cons rfl (one_cons rfl one_nil))) NG rfl LN ?_)
    refine At.p (some 5) (P_assign rfl rfl) ?_
    refine At.p (some 6) (P_assign rfl rfl) ?_
    refine At.nil ?_
    refine At.next ?_
    refine At.ret ?_
    refine At.thn_r ?_
    obtain ⟨z0, z1, z2, z3, z4⟩ := op_rd (key := key) e16
    have hq0 : [iV 0, iV 0, iV 0] = [iV (opC key b), iV (opN key b), iV (opG key b)] := (by rw [z2, z3, z4] <;> first | rfl | rw [y2, y3, y4])
    refine At.empty 991 0 5 ?_
    have hq1 : ([] : List (BitVec 8)) = opT key b := (by first | exact z1.symm | (rw [hd]; exact z1.symm))
    have hq2 : (rdE b : Int) = opE key b := z0.symm
    refine At.giveV (.inl rfl) [991] (rows' := [_]) (ResV.three rfl (ResOne.cellA (k := 4) rfl Try.underlying78 rfl sz78 LN rfl) (ResOne.tmp rfl) (ResOne.tmp rfl)) rfl (by simp) (by simp) ?_
    exact ⟨none, 0, 0, (fun h => absurd h (Nat.lt_irrefl 0)), (by rw [← hq1]; exact Nat.le_refl _), (by first | (rw [hq0, hq1, hq2]; try rfl; done) | (rw [← hq0, ← hq1, ← hq2]; try rfl; done) | (simp only [hq0, hq1, hq2]; try rfl; done) | (simp only [← hq0, ← hq1, ← hq2]; try rfl; done) | rfl), (by first | (rw [hq0, hq1, hq2]; try rfl; done) | (rw [← hq0, ← hq1, ← hq2]; try rfl; done) | (simp only [hq0, hq1, hq2]; try rfl; done) | (simp only [← hq0, ← hq1, ← hq2]; try rfl; done) | rfl)⟩
  · -- cond 16 f
    have e16 : (rdE b) = 0 := bne_eq_false_iff_eq.1 h16
    have hrl := rd_len (b := b) (by simpa using e16)
    refine At.skip ?_
    refine At.next ?_
    refine At.seq ?_
    refine At.draws 12 [] [.q false [0, 1, 2, 3, 4, 5, 6], .e false 7, .q false [8, 9, 10, 11]] (by kernel_rfl) (by kernel_rfl) ?_
    refine At.wq (some 20) (Q_loadA (k := 2) rfl rfl Try.underlying23 rfl sz23 LN rfl) ?_
    refine At.wp (some 21) (P_move rfl rfl) ?_
    refine At.wcV (some 22) [(0, _)] (vs := [_]) rfl en69 rfl (VN (by simp) rfl View.all V0) (c_nonce (h := b) (nh := nb) (Ah := Ab) (ch := cb) (bh := bb) (qh := qb) LN hAb OG OG) ?_
    have := nonceV_len b
    refine At.wp (some 23) (P_move rfl rfl) ?_
    refine At.wp (some 24) (P_slice_sl (l := 10) (h := nb) (m := cb) rfl Try.underlying22 sz5 rfl ⟨_, _, rfl, rfl⟩ rfl rfl DO DO DO) ?_
    refine At.wp (some 25) (P_move rfl rfl) ?_
    refine At.wp (some 26) (P_slice_sl (l := 0) (h := 10) (m := cb) rfl Try.underlying22 sz5 rfl rfl ⟨_, _, rfl, rfl⟩ rfl DO DO DO) ?_
    refine At.wqn ?_
    refine At.we ?_
    refine SStep.up (S_callV (some 27) [(0, _), (0, _)] [27] (vs := [_, _, _, _]) rfl en71 rfl (VN (by simp) rfl (View.sub (j := 10) (m := (nb - 10)) rfl rfl) (VN (by simp) rfl (View.sub (j := 0) (m := (10 - 0)) RO rfl) V0)) (by simp) (c_OpenU (key := key) (nonce := (nonceV b)) (b := ((b.drop 10).take (nb - 10))) (more := (b.take (10 - 0))) (nb := (nb - 10)) (nm := (10 - 0)) (A := (cut Ab 10 cb 1)) (A2 := (cut Ab 0 cb 1)) (bq := bb) (q := (qb + 10)) (br := bb) (r := qb) LN LN LN LN (fun h => cut_addr1 (hAb (by omega)) (by omega)) (fun h => cut_zero (hAb (by omega))) OG OG OG) (by rintro _ _ ⟨A27, b27, c27, g27a, g27b, rfl, rfl⟩; rfl) ?_)
    rintro _ _ ⟨A27, b27, c27, g27a, g27b, rfl, rfl⟩
    refine At.wp (some 19) (P_move rfl rfl) ?_
    refine At.wp (some 28) (P_extract rfl rfl rfl) ?_
    refine At.wp (some 29) (P_extract rfl rfl rfl) ?_
    refine At.wp (some 9) (P_assign rfl rfl) ?_
    refine At.wqn ?_
    refine At.wt rfl ?_
    refine At.p (some 8) (P_assign rfl rfl) ?_
    refine At.nil ?_
    refine At.next ?_
    refine At.seq ?_
    refine At.seq ?_
    refine At.region ?_
    refine At.p (some 30) (P_move rfl rfl) ?_
    refine At.p (some 31) (P_cmp rfl rfl rfl rfl rfl rfl) ?_
    refine At.nil ?_
    refine At.next ?_
    refine At.cond rfl (fun h31 => ?_) (fun h31 => ?_)
    · -- cond 31 t
      have e31 : (openE key (nonceV b) ((b.drop 10).take (nb - 10)) (b.take (10 - 0))) ≠ 0 := bne_iff_ne.1 h31
      refine At.seq ?_
      refine At.region ?_
      refine At.p (some 32) (P_build_struct (parts := _) (vs := []) rfl Try.underlying78 ze78 pl78 rfl rfl) ?_
      refine At.s (S_storeA none (k := 4) (vs := [iV 0, iV 0, iV 0]) rfl rfl rfl (by rw [sz78]; exact congrArg some LN) rfl (one_cons rfl (one_cons rfl (one_cons rfl one_nil))) NG rfl LN ?_)
      refine At.p (some 5) (P_assign rfl rfl) ?_
      refine At.p (some 6) (P_assign rfl rfl) ?_
      refine At.nil ?_
      refine At.next ?_
      refine At.ret ?_
      refine At.thn_r ?_
      have hd : (b.drop 10).take (nb - 10) = b.drop 10 := List.take_of_length_le (by simp; try omega)
      obtain ⟨z0, z1, z2, z3, z4⟩ := op_bad (key := key) (b := b) (by simpa using e16) (openE_f (by rw [← hd]; exact e31))
      obtain ⟨y2, y3, y4⟩ := rd_nums (b := b) (by simpa using e16)
      have hq0 : [iV 0, iV 0, iV 0] = [iV (opC key b), iV (opN key b), iV (opG key b)] := (by rw [z2, z3, z4] <;> first | rfl | rw [y2, y3, y4])
      refine At.empty 991 0 5 ?_
      have hq1 : ([] : List (BitVec 8)) = opT key b := (by first | exact z1.symm | (rw [hd]; exact z1.symm))
      have hq2 : (4 : Int) = opE key b := z0.symm
      refine At.giveV (.inl rfl) [991] (rows' := [_]) (ResV.three rfl (ResOne.cellA (k := 4) rfl Try.underlying78 rfl sz78 LN rfl) (ResOne.tmp rfl) (ResOne.tmp rfl)) rfl (by simp) (by simp) ?_
      exact ⟨none, 0, 0, (fun h => absurd h (Nat.lt_irrefl 0)), (by rw [← hq1]; exact Nat.le_refl _), (by first | (rw [hq0, hq1, hq2]; try rfl; done) | (rw [← hq0, ← hq1, ← hq2]; try rfl; done) | (simp only [hq0, hq1, hq2]; try rfl; done) | (simp only [← hq0, ← hq1, ← hq2]; try rfl; done) | rfl), (by first | (rw [hq0, hq1, hq2]; try rfl; done) | (rw [← hq0, ← hq1, ← hq2]; try rfl; done) | (simp only [hq0, hq1, hq2]; try rfl; done) | (simp only [← hq0, ← hq1, ← hq2]; try rfl; done) | rfl)⟩
    · -- cond 31 f
      have e31 : (openE key (nonceV b) ((b.drop 10).take (nb - 10)) (b.take (10 - 0))) = 0 := bne_eq_false_iff_eq.1 h31
      refine At.skip ?_
      refine At.next ?_
      refine At.seq ?_
      refine At.region ?_
      refine At.q (some 33) (Q_loadA (k := 7) rfl rfl Try.underlying78 rfl sz78 LN rfl) ?_
      refine At.p (some 34) (P_move rfl rfl) ?_
      refine At.s (S_storeA none (k := 4) (vs := [iV (rdC b), iV (rdN b), iV (rdG b)]) rfl rfl rfl (by rw [sz78]; exact congrArg some LN) rfl (one_cons rfl (one_cons rfl (one_cons rfl one_nil))) NG rfl LN ?_)
      refine At.p (some 5) (P_assign rfl rfl) ?_
      refine At.p (some 6) (P_assign rfl rfl) ?_
      refine At.nil ?_
      refine At.next ?_
      refine At.ret ?_
      have hd : (b.drop 10).take (nb - 10) = b.drop 10 := List.take_of_length_le (by simp; try omega)
      obtain ⟨z0, z1, z2, z3, z4⟩ := op_ok (key := key) (b := b) (by simpa using e16) (openE_t (by rw [← hd]; exact e31))
      obtain ⟨y2, y3, y4⟩ := rd_nums (b := b) (by simpa using e16)
      have hq0 : [iV (rdC b), iV (rdN b), iV (rdG b)] = [iV (opC key b), iV (opN key b), iV (opG key b)] := (by rw [z2, z3, z4] <;> first | rfl | rw [y2, y3, y4])
      have hq1 : openT key (nonceV b) ((b.drop 10).take (nb - 10)) (b.take (10 - 0)) = opT key b := (by first | exact z1.symm | (rw [hd]; exact z1.symm))
      have hq2 : (0 : Int) = opE key b := z0.symm
      refine At.giveV (.inl rfl) [27] (rows' := [_]) (ResV.three rfl (ResOne.cellA (k := 4) rfl Try.underlying78 rfl sz78 LN rfl) (ResOne.tmp rfl) (ResOne.tmp rfl)) rfl (by simp) (by simp) ?_
      exact ⟨A27, b27, c27, g27a, (by rw [← hq1]; first | omega | (simp; done) | (simp <;> omega) | exact Nat.le_refl _), (by first | (rw [hq0, hq1, hq2]; try rfl; done) | (rw [← hq0, ← hq1, ← hq2]; try rfl; done) | (simp only [hq0, hq1, hq2]; try rfl; done) | (simp only [← hq0, ← hq1, ← hq2]; try rfl; done) | rfl), (by first | (rw [hq0, hq1, hq2]; try rfl; done) | (rw [← hq0, ← hq1, ← hq2]; try rfl; done) | (simp only [hq0, hq1, hq2]; try rfl; done) | (simp only [← hq0, ← hq1, ← hq2]; try rfl; done) | rfl)⟩

set_option maxHeartbeats 2000000 in
theorem r_VOpen {key : List (BitVec 8)} {b : List (BitVec 8)} {Ab : Option Addr} {nb cb bb qb : Nat} (hkey : key.length = 32) (hnb : b.length = nb) (hAb : 0 < nb → Ab = some ⟨bb, qb, none⟩) (hcb : nb ≤ cb) (hl : nb ≤ 1000000) :
    Con Try.prog 49 [aggK key, .slice Ab nb cb] [pRow bb qb b] (fun v rs => ∃ (A'1 : Option Addr) (b'1 c'1 : Nat), (0 < c'1 → A'1 = some ⟨b'1, 0, none⟩) ∧ (opT key b).length ≤ c'1 ∧ v = .tuple #[.agg ([iV (opC key b), iV (opN key b), iV (opG key b)]).toArray, .slice A'1 (opT key b).length c'1, iV (opE key b)] ∧ rs = [⟨true, b'1, 0, 5, (opT key b).map u8V, c'1 - (opT key b).length⟩]) := by
  refine Con.enter Try.func49 Try.ntmps49 (Nat.le_of_ble_eq_true rfl) rfl fun w => ?_
  refine At.seq ?_
  refine At.region ?_
  refine At.s (S_box (some 2) 2 (zs := (key).map u8V) rfl rfl rfl (fun b2 => ?_))
  refine At.s (S_alloc (some 4) 4 (zs := [iV 0, iV 0, iV 0]) rfl ze75 rfl (fun b4 => ?_))
  refine At.p (some 5) (P_assign rfl rfl) ?_
  refine At.p (some 6) (P_assign rfl rfl) ?_
  refine At.nil ?_
  refine At.next ?_
  refine At.seq ?_
  refine At.seq ?_
  refine At.region ?_
  refine At.p (some 10) (P_move rfl rfl) ?_
  refine At.p (some 11) (P_len_sl rfl rfl ⟨_, Try.underlying22⟩ rfl) ?_
  refine At.p (some 12) (P_cmp rfl rfl rfl rfl rfl rfl) ?_
  refine At.nil ?_
  refine At.next ?_
  refine At.cond rfl (fun h12 => ?_) (fun h12 => ?_)
  · -- cond 12 t
    have e12 : (nb : Int) < 26 := of_decide_eq_true h12
    refine At.seq ?_
    refine At.region ?_
    refine At.p (some 13) (P_build_struct (parts := _) (vs := []) rfl Try.underlying75 ze75 pl75 rfl rfl) ?_
    refine At.s (S_storeA none (k := 4) (vs := [iV 0, iV 0, iV 0]) rfl rfl rfl (by rw [sz75]; exact congrArg some LN) rfl (one_cons rfl (one_cons rfl (one_cons rfl one_nil))) NG rfl LN ?_)
    refine At.p (some 5) (P_assign rfl rfl) ?_
    refine At.p (some 6) (P_assign rfl rfl) ?_
    refine At.nil ?_
    refine At.next ?_
    refine At.ret ?_
    refine At.thn_r ?_
    have z9 := (rd_short (b := b) (by omega)).1
    obtain ⟨z0, z1, z2, z3, z4⟩ := op_rd (key := key) (b := b) (by rw [(rd_short (b := b) (by omega)).1]; decide)
    have hq0 : [iV 0, iV 0, iV 0] = [iV (opC key b), iV (opN key b), iV (opG key b)] := (by rw [z2, z3, z4])
    refine At.empty 991 0 5 ?_
    have hq1 : ([] : List (BitVec 8)) = opT key b := (by first | exact z1.symm | (rw [hd]; exact z1.symm))
    have hq2 : (2 : Int) = opE key b := (by first | exact z0.symm | (rw [z0, z9]))
    refine At.giveV (.inl rfl) [991] (rows' := [_]) (ResV.three rfl (ResOne.cellA (k := 4) rfl Try.underlying75 rfl sz75 LN rfl) (ResOne.tmp rfl) (ResOne.tmp rfl)) rfl (by simp) (by simp) ?_
    exact ⟨none, 0, 0, (fun h => absurd h (Nat.lt_irrefl 0)), (by rw [← hq1]; exact Nat.le_refl _), (by first | (rw [hq0, hq1, hq2]; try rfl; done) | (rw [← hq0, ← hq1, ← hq2]; try rfl; done) | (simp only [hq0, hq1, hq2]; try rfl; done) | (simp only [← hq0, ← hq1, ← hq2]; try rfl; done) | rfl), (by first | (rw [hq0, hq1, hq2]; try rfl; done) | (rw [← hq0, ← hq1, ← hq2]; try rfl; done) | (simp only [hq0, hq1, hq2]; try rfl; done) | (simp only [← hq0, ← hq1, ← hq2]; try rfl; done) | rfl)⟩
  · -- cond 12 f
    have e12 : ¬ (nb : Int) < 26 := of_decide_eq_false h12
    refine At.skip ?_
    refine At.next ?_
    refine At.seq ?_
    refine At.seq ?_
    have c127 : (127#8).toNat = 127 := rfl
    refine At.region ?_
    refine At.p (some 14) (P_move rfl rfl) ?_
    refine At.p (some 15) (P_len_sl rfl rfl ⟨_, Try.underlying22⟩ rfl) ?_
    refine At.p (some 16) (P_cmp rfl rfl rfl rfl rfl rfl) ?_
    refine At.p (some 17) (P_move rfl rfl) ?_
    refine At.gsplit (t := 17) (want := false) rfl (fun g1 => ?_) (fun g1 => ?_)
    ·
      have eg1 : ¬ (nb : Int) > 30026 := of_decide_eq_false g1
      refine At.gy (t := 17) rfl g1 rfl rfl ?_
      refine At.p (some 18) (P_move rfl rfl) ?_
      refine At.gy (t := 17) rfl g1 rfl rfl ?_
      refine At.p (some 19) (P_indexAddr_sl1 (b := bb) (m := qb) (j := 0) rfl Try.underlying22 sz5 rfl (hAb OG) rfl rfl OG) ?_
      refine At.gy (t := 17) rfl g1 rfl rfl ?_
      refine At.q (some 20) (Q_loadR (k := 0) (f := u8V) (l := b) (j := 0) (0#8) rfl rfl Try.underlying5 rfl rfl RO OG) ?_
      refine At.gy (t := 17) rfl g1 rfl rfl ?_
      refine At.p (some 21) (P_gtr_w (n := 8) (b := 127#8) rfl rfl rfl) ?_
      refine At.p (some 22) (P_pick_f rfl rfl g1 rfl) ?_
      refine At.p (some 23) (P_move rfl rfl) ?_
      refine At.gsplit (t := 23) (want := false) rfl (fun g2 => ?_) (fun g2 => ?_)
      ·
        have eg2 : ¬ (127#8).toNat < (b.getD 0 0#8).toNat := of_decide_eq_false g2
        refine At.gy (t := 23) rfl g2 rfl rfl ?_
        refine At.p (some 24) (P_move rfl rfl) ?_
        refine At.gy (t := 23) rfl g2 rfl rfl ?_
        refine At.p (some 25) (P_indexAddr_sl1 (b := bb) (m := qb) (j := 6) rfl Try.underlying22 sz5 rfl (hAb OG) rfl rfl OG) ?_
        refine At.gy (t := 23) rfl g2 rfl rfl ?_
        refine At.q (some 26) (Q_loadR (k := 0) (f := u8V) (l := b) (j := 6) (0#8) rfl rfl Try.underlying5 rfl rfl rfl OG) ?_
        refine At.gy (t := 23) rfl g2 rfl rfl ?_
        refine At.p (some 27) (P_gtr_w (n := 8) (b := 127#8) rfl rfl rfl) ?_
        refine At.p (some 28) (P_pick_f rfl rfl g2 rfl) ?_
        refine At.nil ?_
        refine At.next ?_
        refine At.cond rfl (fun h28 => ?_) (fun h28 => ?_)
        · -- cond 28 t
          have e28 : (127#8).toNat < (b.getD 6 0#8).toNat := of_decide_eq_true h28
          refine At.seq ?_
          refine At.region ?_
          refine At.p (some 29) (P_build_struct (parts := _) (vs := []) rfl Try.underlying75 ze75 pl75 rfl rfl) ?_
          refine At.s (S_storeA none (k := 4) (vs := [iV 0, iV 0, iV 0]) rfl rfl rfl (by rw [sz75]; exact congrArg some LN) rfl (one_cons rfl (one_cons rfl (one_cons rfl one_nil))) NG rfl LN ?_)
          refine At.p (some 5) (P_assign rfl rfl) ?_
          refine At.p (some 6) (P_assign rfl rfl) ?_
          refine At.nil ?_
          refine At.next ?_
          refine At.ret ?_
          refine At.thn_r ?_
          have z8 := rd_3 (b := b) (by omega) (by omega)
          have z9 := z8.2
          obtain ⟨z0, z1, z2, z3, z4⟩ := op_rd (key := key) (b := b) z8.1
          have hq0 : [iV 0, iV 0, iV 0] = [iV (opC key b), iV (opN key b), iV (opG key b)] := (by rw [z2, z3, z4])
          refine At.empty 991 0 5 ?_
          have hq1 : ([] : List (BitVec 8)) = opT key b := (by first | exact z1.symm | (rw [hd]; exact z1.symm))
          have hq2 : (3 : Int) = opE key b := (by first | exact z0.symm | (rw [z0, z9]))
          refine At.giveV (.inl rfl) [991] (rows' := [_]) (ResV.three rfl (ResOne.cellA (k := 4) rfl Try.underlying75 rfl sz75 LN rfl) (ResOne.tmp rfl) (ResOne.tmp rfl)) rfl (by simp) (by simp) ?_
          exact ⟨none, 0, 0, (fun h => absurd h (Nat.lt_irrefl 0)), (by rw [← hq1]; exact Nat.le_refl _), (by first | (rw [hq0, hq1, hq2]; try rfl; done) | (rw [← hq0, ← hq1, ← hq2]; try rfl; done) | (simp only [hq0, hq1, hq2]; try rfl; done) | (simp only [← hq0, ← hq1, ← hq2]; try rfl; done) | rfl), (by first | (rw [hq0, hq1, hq2]; try rfl; done) | (rw [← hq0, ← hq1, ← hq2]; try rfl; done) | (simp only [hq0, hq1, hq2]; try rfl; done) | (simp only [← hq0, ← hq1, ← hq2]; try rfl; done) | rfl)⟩
        · -- cond 28 f
          have e28 : ¬ (127#8).toNat < (b.getD 6 0#8).toNat := of_decide_eq_false h28
          refine At.skip ?_
          refine At.next ?_
          refine At.seq ?_
          have i0 := (b.getD 0 0#8).isLt
          have i1 := (b.getD 1 0#8).isLt
          have i2 := (b.getD 2 0#8).isLt
          have i3 := (b.getD 3 0#8).isLt
          have i4 := (b.getD 4 0#8).isLt
          have i5 := (b.getD 5 0#8).isLt
          have i6 := (b.getD 6 0#8).isLt
          have i7 := (b.getD 7 0#8).isLt
          have i8 := (b.getD 8 0#8).isLt
          have i9 := (b.getD 9 0#8).isLt
          refine At.draws 56 [] [.q false [0, 1, 2, 3, 4, 5, 6, 7, 8, 9, 10, 11, 12, 13, 14, 15, 16, 17, 18, 19, 20, 21, 22, 23, 24, 25, 26, 27, 28, 29, 30, 31, 32, 33, 34, 35, 36, 37, 38, 39, 40, 41, 42, 43, 44, 45, 46, 47, 48, 49, 50, 51, 52, 53, 54], .e false 55] (by kernel_rfl) (by kernel_rfl) ?_
          refine At.wp (some 30) (P_move rfl rfl) ?_
          refine At.wp (some 31) (P_indexAddr_sl1 (b := bb) (m := qb) (j := 0) rfl Try.underlying22 sz5 rfl (hAb OG) rfl rfl OG) ?_
          refine At.wq (some 32) (Q_loadR (k := 0) (f := u8V) (l := b) (j := 0) (0#8) rfl rfl Try.underlying5 rfl rfl RO OG) ?_
          refine At.wp (some 33) (P_conv_wi UK.u8 (by decide) rfl Try.underlying5 Try.underlying3 rfl) ?_
          refine At.wp (some 34) (P_shl_c (c := 16777216) rfl rfl rfl (by decide) (by decide) (by rfl) (by omega)) ?_
          refine At.wp (some 35) (P_move rfl rfl) ?_
          refine At.wp (some 36) (P_indexAddr_sl1 (b := bb) (m := qb) (j := 1) rfl Try.underlying22 sz5 rfl (hAb OG) rfl rfl OG) ?_
          refine At.wq (some 37) (Q_loadR (k := 0) (f := u8V) (l := b) (j := 1) (0#8) rfl rfl Try.underlying5 rfl rfl rfl OG) ?_
          refine At.wp (some 38) (P_conv_wi UK.u8 (by decide) rfl Try.underlying5 Try.underlying3 rfl) ?_
          refine At.wp (some 39) (P_shl_c (c := 65536) rfl rfl rfl (by decide) (by decide) (by rfl) (by omega)) ?_
          refine At.wp (some 40) (P_add_i rfl rfl rfl (by omega)) ?_
          refine At.wp (some 41) (P_move rfl rfl) ?_
          refine At.wp (some 42) (P_indexAddr_sl1 (b := bb) (m := qb) (j := 2) rfl Try.underlying22 sz5 rfl (hAb OG) rfl rfl OG) ?_
          refine At.wq (some 43) (Q_loadR (k := 0) (f := u8V) (l := b) (j := 2) (0#8) rfl rfl Try.underlying5 rfl rfl rfl OG) ?_
          refine At.wp (some 44) (P_conv_wi UK.u8 (by decide) rfl Try.underlying5 Try.underlying3 rfl) ?_
          refine At.wp (some 45) (P_shl_c (c := 256) rfl rfl rfl (by decide) (by decide) (by rfl) (by omega)) ?_
          refine At.wp (some 46) (P_add_i rfl rfl rfl (by omega)) ?_
          refine At.wp (some 47) (P_move rfl rfl) ?_
          refine At.wp (some 48) (P_indexAddr_sl1 (b := bb) (m := qb) (j := 3) rfl Try.underlying22 sz5 rfl (hAb OG) rfl rfl OG) ?_
          refine At.wq (some 49) (Q_loadR (k := 0) (f := u8V) (l := b) (j := 3) (0#8) rfl rfl Try.underlying5 rfl rfl rfl OG) ?_
          refine At.wp (some 50) (P_conv_wi UK.u8 (by decide) rfl Try.underlying5 Try.underlying3 rfl) ?_
          refine At.wp (some 51) (P_add_i rfl rfl rfl (by omega)) ?_
          have q51 : (((((((b.getD 0 0#8).toNat : Int) * 16777216) + (((b.getD 1 0#8).toNat : Int) * 65536)) + (((b.getD 2 0#8).toNat : Int) * 256)) + ((b.getD 3 0#8).toNat : Int)) : Int) = numI b 0 4 := (num4 (o := 0) (by omega)).symm
          simp only [q51]
          refine At.wp (some 52) (P_move rfl rfl) ?_
          refine At.wp (some 53) (P_indexAddr_sl1 (b := bb) (m := qb) (j := 4) rfl Try.underlying22 sz5 rfl (hAb OG) rfl rfl OG) ?_
          refine At.wq (some 54) (Q_loadR (k := 0) (f := u8V) (l := b) (j := 4) (0#8) rfl rfl Try.underlying5 rfl rfl rfl OG) ?_
          refine At.wp (some 55) (P_conv_wi UK.u8 (by decide) rfl Try.underlying5 Try.underlying3 rfl) ?_
          refine At.wp (some 56) (P_shl_c (c := 256) rfl rfl rfl (by decide) (by decide) (by rfl) (by omega)) ?_
          refine At.wp (some 57) (P_move rfl rfl) ?_
          refine At.wp (some 58) (P_indexAddr_sl1 (b := bb) (m := qb) (j := 5) rfl Try.underlying22 sz5 rfl (hAb OG) rfl rfl OG) ?_
          refine At.wq (some 59) (Q_loadR (k := 0) (f := u8V) (l := b) (j := 5) (0#8) rfl rfl Try.underlying5 rfl rfl rfl OG) ?_
          refine At.wp (some 60) (P_conv_wi UK.u8 (by decide) rfl Try.underlying5 Try.underlying3 rfl) ?_
          refine At.wp (some 61) (P_add_i rfl rfl rfl (by omega)) ?_
          have q61 : (((((b.getD 4 0#8).toNat : Int) * 256) + ((b.getD 5 0#8).toNat : Int)) : Int) = numI b 4 2 := (num2 (o := 4) (by omega)).symm
          simp only [q61]
          refine At.wp (some 62) (P_move rfl rfl) ?_
          refine At.wp (some 63) (P_indexAddr_sl1 (b := bb) (m := qb) (j := 6) rfl Try.underlying22 sz5 rfl (hAb OG) rfl rfl OG) ?_
          refine At.wq (some 64) (Q_loadR (k := 0) (f := u8V) (l := b) (j := 6) (0#8) rfl rfl Try.underlying5 rfl rfl rfl OG) ?_
          refine At.wp (some 65) (P_conv_wi UK.u8 (by decide) rfl Try.underlying5 Try.underlying3 rfl) ?_
          refine At.wp (some 66) (P_shl_c (c := 16777216) rfl rfl rfl (by decide) (by decide) (by rfl) (by omega)) ?_
          refine At.wp (some 67) (P_move rfl rfl) ?_
          refine At.wp (some 68) (P_indexAddr_sl1 (b := bb) (m := qb) (j := 7) rfl Try.underlying22 sz5 rfl (hAb OG) rfl rfl OG) ?_
          refine At.wq (some 69) (Q_loadR (k := 0) (f := u8V) (l := b) (j := 7) (0#8) rfl rfl Try.underlying5 rfl rfl rfl OG) ?_
          refine At.wp (some 70) (P_conv_wi UK.u8 (by decide) rfl Try.underlying5 Try.underlying3 rfl) ?_
          refine At.wp (some 71) (P_shl_c (c := 65536) rfl rfl rfl (by decide) (by decide) (by rfl) (by omega)) ?_
          refine At.wp (some 72) (P_add_i rfl rfl rfl (by omega)) ?_
          refine At.wp (some 73) (P_move rfl rfl) ?_
          refine At.wp (some 74) (P_indexAddr_sl1 (b := bb) (m := qb) (j := 8) rfl Try.underlying22 sz5 rfl (hAb OG) rfl rfl OG) ?_
          refine At.wq (some 75) (Q_loadR (k := 0) (f := u8V) (l := b) (j := 8) (0#8) rfl rfl Try.underlying5 rfl rfl rfl OG) ?_
          refine At.wp (some 76) (P_conv_wi UK.u8 (by decide) rfl Try.underlying5 Try.underlying3 rfl) ?_
          refine At.wp (some 77) (P_shl_c (c := 256) rfl rfl rfl (by decide) (by decide) (by rfl) (by omega)) ?_
          refine At.wp (some 78) (P_add_i rfl rfl rfl (by omega)) ?_
          refine At.wp (some 79) (P_move rfl rfl) ?_
          refine At.wp (some 80) (P_indexAddr_sl1 (b := bb) (m := qb) (j := 9) rfl Try.underlying22 sz5 rfl (hAb OG) rfl rfl OG) ?_
          refine At.wq (some 81) (Q_loadR (k := 0) (f := u8V) (l := b) (j := 9) (0#8) rfl rfl Try.underlying5 rfl rfl rfl OG) ?_
          refine At.wp (some 82) (P_conv_wi UK.u8 (by decide) rfl Try.underlying5 Try.underlying3 rfl) ?_
          refine At.wp (some 83) (P_add_i rfl rfl rfl (by omega)) ?_
          have q83 : (((((((b.getD 6 0#8).toNat : Int) * 16777216) + (((b.getD 7 0#8).toNat : Int) * 65536)) + (((b.getD 8 0#8).toNat : Int) * 256)) + ((b.getD 9 0#8).toNat : Int)) : Int) = numI b 6 4 := (num4 (o := 6) (by omega)).symm
          simp only [q83]
          refine At.wp (some 84) (P_build_struct (parts := _) (vs := [(0, _), (1, _), (2, _)]) rfl Try.underlying75 ze75 pl75 rfl rfl) ?_
          refine At.wqn ?_
          refine At.we ?_
          refine S_alloc (some 7) 7 (zs := [iV 0, iV 0, iV 0]) rfl ze75 rfl (fun b7 => ?_)
          refine At.wt rfl ?_
          refine At.s (S_storeA none (k := 7) (vs := [iV (numI b 0 4), iV (numI b 4 2), iV (numI b 6 4)]) rfl rfl rfl (by rw [sz75]; exact congrArg some LN) rfl (one_cons rfl (one_cons rfl (one_cons rfl one_nil))) NG rfl LN ?_)
          refine At.nil ?_
          refine At.next ?_
          refine At.seq ?_
          refine At.draws 23 [] [.q false [0, 1, 2, 3, 4, 5, 6, 7, 8, 9, 10, 11, 12, 13, 14, 15, 16, 17], .e false 18, .q false [19, 20, 21, 22]] (by kernel_rfl) (by kernel_rfl) ?_
          refine At.wq (some 86) (Q_loadA (k := 2) rfl rfl Try.underlying23 rfl sz23 LN rfl) ?_
          refine At.wp (some 87) (P_move rfl rfl) ?_
          refine At.wp (some 88) (P_indexAddr_sl1 (b := bb) (m := qb) (j := 0) rfl Try.underlying22 sz5 rfl (hAb OG) rfl rfl OG) ?_
          refine At.wq (some 89) (Q_loadR (k := 0) (f := u8V) (l := b) (j := 0) (0#8) rfl rfl Try.underlying5 rfl rfl RO OG) ?_
          refine At.wp (some 90) (P_move rfl rfl) ?_
          refine At.wp (some 91) (P_indexAddr_sl1 (b := bb) (m := qb) (j := 1) rfl Try.underlying22 sz5 rfl (hAb OG) rfl rfl OG) ?_
          refine At.wq (some 92) (Q_loadR (k := 0) (f := u8V) (l := b) (j := 1) (0#8) rfl rfl Try.underlying5 rfl rfl rfl OG) ?_
          refine At.wp (some 93) (P_move rfl rfl) ?_
          refine At.wp (some 94) (P_indexAddr_sl1 (b := bb) (m := qb) (j := 2) rfl Try.underlying22 sz5 rfl (hAb OG) rfl rfl OG) ?_
          refine At.wq (some 95) (Q_loadR (k := 0) (f := u8V) (l := b) (j := 2) (0#8) rfl rfl Try.underlying5 rfl rfl rfl OG) ?_
          refine At.wp (some 96) (P_move rfl rfl) ?_
          refine At.wp (some 97) (P_indexAddr_sl1 (b := bb) (m := qb) (j := 3) rfl Try.underlying22 sz5 rfl (hAb OG) rfl rfl OG) ?_
          refine At.wq (some 98) (Q_loadR (k := 0) (f := u8V) (l := b) (j := 3) (0#8) rfl rfl Try.underlying5 rfl rfl rfl OG) ?_
          refine At.wp (some 99) (P_build_arr (cs := (([0#8, 0#8, 0#8, 0#8, 0#8, 0#8, 0#8, 0#8, (b.getD 0 0#8), (b.getD 1 0#8), (b.getD 2 0#8), (b.getD 3 0#8)]).map u8V).toArray) (parts := _) (vs := [(8, _), (9, _), (10, _), (11, _)]) rfl Try.underlying107 sz5 ze107 rfl rfl) ?_
          refine At.wp (some 100) (P_move rfl rfl) ?_
          refine At.wp (some 101) (P_slice_sl (l := 10) (h := nb) (m := cb) rfl Try.underlying22 sz5 rfl ⟨_, _, rfl, rfl⟩ rfl rfl DO DO DO) ?_
          refine At.wp (some 102) (P_move rfl rfl) ?_
          refine At.wp (some 103) (P_slice_sl (l := 0) (h := 10) (m := cb) rfl Try.underlying22 sz5 rfl rfl ⟨_, _, rfl, rfl⟩ rfl DO DO DO) ?_
          refine At.wqn ?_
          refine At.we ?_
          refine SStep.up (S_callV (some 104) [(0, _), (0, _)] [104] (vs := [_, _, _, _]) rfl en74 rfl (VN (by simp) rfl (View.sub (j := 10) (m := (nb - 10)) rfl rfl) (VN (by simp) rfl (View.sub (j := 0) (m := (10 - 0)) RO rfl) V0)) (by simp) (r_OpenU (key := key) (nonce := [0#8, 0#8, 0#8, 0#8, 0#8, 0#8, 0#8, 0#8, (b.getD 0 0#8), (b.getD 1 0#8), (b.getD 2 0#8), (b.getD 3 0#8)]) (b := ((b.drop 10).take (nb - 10))) (more := (b.take (10 - 0))) (nb := (nb - 10)) (nm := (10 - 0)) (A := (cut Ab 10 cb 1)) (A2 := (cut Ab 0 cb 1)) (bq := bb) (q := (qb + 10)) (br := bb) (r := qb) LN LN LN LN (fun h => cut_addr1 (hAb (by omega)) (by omega)) (fun h => cut_zero (hAb (by omega))) OG OG OG) (by rintro _ _ ⟨A104, b104, c104, g104a, g104b, rfl, rfl⟩; rfl) ?_)
          rintro _ _ ⟨A104, b104, c104, g104a, g104b, rfl, rfl⟩
          refine At.wp (some 85) (P_move rfl rfl) ?_
          refine At.wp (some 105) (P_extract rfl rfl rfl) ?_
          refine At.wp (some 106) (P_extract rfl rfl rfl) ?_
          refine At.wp (some 8) (P_assign rfl rfl) ?_
          refine At.wqn ?_
          refine At.wt rfl ?_
          refine At.p (some 9) (P_assign rfl rfl) ?_
          refine At.nil ?_
          refine At.next ?_
          refine At.seq ?_
          refine At.seq ?_
          refine At.region ?_
          refine At.p (some 107) (P_move rfl rfl) ?_
          refine At.p (some 108) (P_not rfl rfl) ?_
          refine At.nil ?_
          refine At.next ?_
          refine At.cond rfl (fun h108 => ?_) (fun h108 => ?_)
          · -- cond 108 t
            refine At.seq ?_
            refine At.region ?_
            refine At.p (some 109) (P_build_struct (parts := _) (vs := []) rfl Try.underlying75 ze75 pl75 rfl rfl) ?_
            refine At.s (S_storeA none (k := 4) (vs := [iV 0, iV 0, iV 0]) rfl rfl rfl (by rw [sz75]; exact congrArg some LN) rfl (one_cons rfl (one_cons rfl (one_cons rfl one_nil))) NG rfl LN ?_)
            refine At.p (some 5) (P_assign rfl rfl) ?_
            refine At.p (some 6) (P_assign rfl rfl) ?_
            refine At.nil ?_
            refine At.next ?_
            refine At.ret ?_
            refine At.thn_r ?_
            have z8 := rd_0 (b := b) (by omega) (by omega) (by omega) (by omega)
            have hd : (b.drop 10).take (nb - 10) = b.drop 10 := List.take_of_length_le (by simp; try omega)
            obtain ⟨z0, z1, z2, z3, z4⟩ := op_bad (key := key) (b := b) z8 (by rw [← hd]; exact notT h108)
            have hq0 : [iV 0, iV 0, iV 0] = [iV (opC key b), iV (opN key b), iV (opG key b)] := (by rw [z2, z3, z4])
            refine At.empty 991 0 5 ?_
            have hq1 : ([] : List (BitVec 8)) = opT key b := (by first | exact z1.symm | (rw [hd]; exact z1.symm))
            have hq2 : (4 : Int) = opE key b := (by first | exact z0.symm | (rw [z0, z9]))
            refine At.giveV (.inl rfl) [991] (rows' := [_]) (ResV.three rfl (ResOne.cellA (k := 4) rfl Try.underlying75 rfl sz75 LN rfl) (ResOne.tmp rfl) (ResOne.tmp rfl)) rfl (by simp) (by simp) ?_
            exact ⟨none, 0, 0, (fun h => absurd h (Nat.lt_irrefl 0)), (by rw [← hq1]; exact Nat.le_refl _), (by first | (rw [hq0, hq1, hq2]; try rfl; done) | (rw [← hq0, ← hq1, ← hq2]; try rfl; done) | (simp only [hq0, hq1, hq2]; try rfl; done) | (simp only [← hq0, ← hq1, ← hq2]; try rfl; done) | rfl), (by first | (rw [hq0, hq1, hq2]; try rfl; done) | (rw [← hq0, ← hq1, ← hq2]; try rfl; done) | (simp only [hq0, hq1, hq2]; try rfl; done) | (simp only [← hq0, ← hq1, ← hq2]; try rfl; done) | rfl)⟩
          · -- cond 108 f
            refine At.skip ?_
            refine At.next ?_
            refine At.seq ?_
            refine At.region ?_
            refine At.q (some 110) (Q_loadA (k := 7) rfl rfl Try.underlying75 rfl sz75 LN rfl) ?_
            refine At.p (some 111) (P_move rfl rfl) ?_
            refine At.s (S_storeA none (k := 4) (vs := [iV (numI b 0 4), iV (numI b 4 2), iV (numI b 6 4)]) rfl rfl rfl (by rw [sz75]; exact congrArg some LN) rfl (one_cons rfl (one_cons rfl (one_cons rfl one_nil))) NG rfl LN ?_)
            refine At.p (some 5) (P_assign rfl rfl) ?_
            refine At.p (some 6) (P_assign rfl rfl) ?_
            refine At.nil ?_
            refine At.next ?_
            refine At.ret ?_
            have z8 := rd_0 (b := b) (by omega) (by omega) (by omega) (by omega)
            have hd : (b.drop 10).take (nb - 10) = b.drop 10 := List.take_of_length_le (by simp; try omega)
            obtain ⟨z0, z1, z2, z3, z4⟩ := op_ok (key := key) (b := b) z8 (by rw [← hd]; exact notF h108)
            have hq0 : [iV (numI b 0 4), iV (numI b 4 2), iV (numI b 6 4)] = [iV (opC key b), iV (opN key b), iV (opG key b)] := (by rw [z2, z3, z4])
            have hq1 : openT key [0#8, 0#8, 0#8, 0#8, 0#8, 0#8, 0#8, 0#8, (b.getD 0 0#8), (b.getD 1 0#8), (b.getD 2 0#8), (b.getD 3 0#8)] ((b.drop 10).take (nb - 10)) (b.take (10 - 0)) = opT key b := (by first | exact z1.symm | (rw [hd]; exact z1.symm))
            have hq2 : (0 : Int) = opE key b := (by first | exact z0.symm | (rw [z0, z9]))
            refine At.giveV (.inl rfl) [104] (rows' := [_]) (ResV.three rfl (ResOne.cellA (k := 4) rfl Try.underlying75 rfl sz75 LN rfl) (ResOne.tmp rfl) (ResOne.tmp rfl)) rfl (by simp) (by simp) ?_
            exact ⟨A104, b104, c104, g104a, (by rw [← hq1]; first | omega | (simp; done) | (simp <;> omega) | exact Nat.le_refl _), (by first | (rw [hq0, hq1, hq2]; try rfl; done) | (rw [← hq0, ← hq1, ← hq2]; try rfl; done) | (simp only [hq0, hq1, hq2]; try rfl; done) | (simp only [← hq0, ← hq1, ← hq2]; try rfl; done) | rfl), (by first | (rw [hq0, hq1, hq2]; try rfl; done) | (rw [← hq0, ← hq1, ← hq2]; try rfl; done) | (simp only [hq0, hq1, hq2]; try rfl; done) | (simp only [← hq0, ← hq1, ← hq2]; try rfl; done) | rfl)⟩
      ·
        have eg2 : (127#8).toNat < (b.getD 0 0#8).toNat := of_decide_eq_true g2
        refine At.gn (some 24) (t := 23) rfl g2 rfl rfl ?_
        refine At.gn (some 25) (t := 23) rfl g2 rfl rfl ?_
        refine At.gn (some 26) (t := 23) rfl g2 rfl rfl ?_
        refine At.gn (some 27) (t := 23) rfl g2 rfl rfl ?_
        refine At.p (some 28) (P_pick_t rfl rfl g2 rfl) ?_
        refine At.nil ?_
        refine At.next ?_
        refine At.cond rfl (fun _ => ?_) (fun h => absurd (h.symm.trans rfl) (by decide))
        refine At.seq ?_
        refine At.region ?_
        refine At.p (some 29) (P_build_struct (parts := _) (vs := []) rfl Try.underlying75 ze75 pl75 rfl rfl) ?_
        refine At.s (S_storeA none (k := 4) (vs := [iV 0, iV 0, iV 0]) rfl rfl rfl (by rw [sz75]; exact congrArg some LN) rfl (one_cons rfl (one_cons rfl (one_cons rfl one_nil))) NG rfl LN ?_)
        refine At.p (some 5) (P_assign rfl rfl) ?_
        refine At.p (some 6) (P_assign rfl rfl) ?_
        refine At.nil ?_
        refine At.next ?_
        refine At.ret ?_
        refine At.thn_r ?_
        have z8 := rd_3 (b := b) (by omega) (by omega)
        have z9 := z8.2
        obtain ⟨z0, z1, z2, z3, z4⟩ := op_rd (key := key) (b := b) z8.1
        have hq0 : [iV 0, iV 0, iV 0] = [iV (opC key b), iV (opN key b), iV (opG key b)] := (by rw [z2, z3, z4])
        refine At.empty 991 0 5 ?_
        have hq1 : ([] : List (BitVec 8)) = opT key b := (by first | exact z1.symm | (rw [hd]; exact z1.symm))
        have hq2 : (3 : Int) = opE key b := (by first | exact z0.symm | (rw [z0, z9]))
        refine At.giveV (.inl rfl) [991] (rows' := [_]) (ResV.three rfl (ResOne.cellA (k := 4) rfl Try.underlying75 rfl sz75 LN rfl) (ResOne.tmp rfl) (ResOne.tmp rfl)) rfl (by simp) (by simp) ?_
        exact ⟨none, 0, 0, (fun h => absurd h (Nat.lt_irrefl 0)), (by rw [← hq1]; exact Nat.le_refl _), (by first | (rw [hq0, hq1, hq2]; try rfl; done) | (rw [← hq0, ← hq1, ← hq2]; try rfl; done) | (simp only [hq0, hq1, hq2]; try rfl; done) | (simp only [← hq0, ← hq1, ← hq2]; try rfl; done) | rfl), (by first | (rw [hq0, hq1, hq2]; try rfl; done) | (rw [← hq0, ← hq1, ← hq2]; try rfl; done) | (simp only [hq0, hq1, hq2]; try rfl; done) | (simp only [← hq0, ← hq1, ← hq2]; try rfl; done) | rfl)⟩
    ·
      have eg1 : (nb : Int) > 30026 := of_decide_eq_true g1
      refine At.gn (some 18) (t := 17) rfl g1 rfl rfl ?_
      refine At.gn (some 19) (t := 17) rfl g1 rfl rfl ?_
      refine At.gn (some 20) (t := 17) rfl g1 rfl rfl ?_
      refine At.gn (some 21) (t := 17) rfl g1 rfl rfl ?_
      refine At.p (some 22) (P_pick_t rfl rfl g1 rfl) ?_
      refine At.p (some 23) (P_move rfl rfl) ?_
      refine At.gn (some 24) (t := 23) rfl rfl rfl rfl ?_
      refine At.gn (some 25) (t := 23) rfl rfl rfl rfl ?_
      refine At.gn (some 26) (t := 23) rfl rfl rfl rfl ?_
      refine At.gn (some 27) (t := 23) rfl rfl rfl rfl ?_
      refine At.p (some 28) (P_pick_t rfl rfl rfl rfl) ?_
      refine At.nil ?_
      refine At.next ?_
      refine At.cond rfl (fun _ => ?_) (fun h => absurd (h.symm.trans rfl) (by decide))
      refine At.seq ?_
      refine At.region ?_
      refine At.p (some 29) (P_build_struct (parts := _) (vs := []) rfl Try.underlying75 ze75 pl75 rfl rfl) ?_
      refine At.s (S_storeA none (k := 4) (vs := [iV 0, iV 0, iV 0]) rfl rfl rfl (by rw [sz75]; exact congrArg some LN) rfl (one_cons rfl (one_cons rfl (one_cons rfl one_nil))) NG rfl LN ?_)
      refine At.p (some 5) (P_assign rfl rfl) ?_
      refine At.p (some 6) (P_assign rfl rfl) ?_
      refine At.nil ?_
      refine At.next ?_
      refine At.ret ?_
      refine At.thn_r ?_
      have z8 := rd_3 (b := b) (by omega) (by omega)
      have z9 := z8.2
      obtain ⟨z0, z1, z2, z3, z4⟩ := op_rd (key := key) (b := b) z8.1
      have hq0 : [iV 0, iV 0, iV 0] = [iV (opC key b), iV (opN key b), iV (opG key b)] := (by rw [z2, z3, z4])
      refine At.empty 991 0 5 ?_
      have hq1 : ([] : List (BitVec 8)) = opT key b := (by first | exact z1.symm | (rw [hd]; exact z1.symm))
      have hq2 : (3 : Int) = opE key b := (by first | exact z0.symm | (rw [z0, z9]))
      refine At.giveV (.inl rfl) [991] (rows' := [_]) (ResV.three rfl (ResOne.cellA (k := 4) rfl Try.underlying75 rfl sz75 LN rfl) (ResOne.tmp rfl) (ResOne.tmp rfl)) rfl (by simp) (by simp) ?_
      exact ⟨none, 0, 0, (fun h => absurd h (Nat.lt_irrefl 0)), (by rw [← hq1]; exact Nat.le_refl _), (by first | (rw [hq0, hq1, hq2]; try rfl; done) | (rw [← hq0, ← hq1, ← hq2]; try rfl; done) | (simp only [hq0, hq1, hq2]; try rfl; done) | (simp only [← hq0, ← hq1, ← hq2]; try rfl; done) | rfl), (by first | (rw [hq0, hq1, hq2]; try rfl; done) | (rw [← hq0, ← hq1, ← hq2]; try rfl; done) | (simp only [hq0, hq1, hq2]; try rfl; done) | (simp only [← hq0, ← hq1, ← hq2]; try rfl; done) | rfl)⟩

end Go.Proofs.Ytihciioopdalnaa
