import Derived.Test.YtdingfinclcbgaaXT2
import Derived.Test.YtdingfinclcbgaaXS2
import Derived.Test.YtdingfinclcbgaaG1
namespace Go.Proofs.Ytdingfinclcbgaa
set_option maxRecDepth 20000
set_option linter.unusedVariables false
set_option linter.unusedSimpArgs false
open Go.SE Go.RowKit
/-! numbers as bytes -/
def beW (w : Nat) (n : BitVec 64) : List (BitVec 8) := (List.range w).map fun k => (n >>> (8 * (w - 1 - k))).setWidth 8
theorem beW_len (w : Nat) (n : BitVec 64) : (beW w n).length = w := by simp [beW]
theorem beW_succ {w k : Nat} {n : BitVec 64} (h : k < w) : (beW w n).take (k + 1) = (beW w n).take k ++ [(n >>> (8 * (w - 1 - k))).setWidth 8] := by
 rw [List.take_succ_eq_append_getElem (by rw [beW_len]; exact h)]
 simp [beW]
def nuW : List (BitVec 8) → BitVec 64 → BitVec 64
 | [], a => a
 | x :: l, a => nuW l (a <<< 8 ||| x.setWidth 64)
theorem nuW_succ : ∀ (l : List (BitVec 8)) (k : Nat) (a : BitVec 64), k < l.length → nuW (l.take (k + 1)) a = nuW (l.take k) a <<< 8 ||| (l.getD k 0#8).setWidth 64
 | [], k, a, h => absurd h (Nat.not_lt_zero _)
 | x :: l, 0, a, _ => by simp [nuW]
 | x :: l, k + 1, a, h => by
  have := nuW_succ l k (a <<< 8 ||| x.setWidth 64) (by simpa using h)
  simpa [nuW] using this
theorem or8 (x : BitVec 64) (y : BitVec 8) (h : x.toNat < 2 ^ 56) : (x <<< 8 ||| y.setWidth 64).toNat = x.toNat * 256 + y.toNat := by
 have hy := y.isLt
 rw [BitVec.toNat_or, BitVec.toNat_shiftLeft, BitVec.toNat_setWidth, Nat.mod_eq_of_lt (show y.toNat < 2 ^ 64 by omega), Nat.mod_eq_of_lt (show x.toNat <<< 8 < 2 ^ 64 by rw [Nat.shiftLeft_eq]; omega), ← Nat.shiftLeft_add_eq_or_of_lt (by omega : y.toNat < 2 ^ 8), Nat.shiftLeft_eq]
def beN : List (BitVec 8) → Nat → Nat
 | [], a => a
 | x :: l, a => beN l (a * 256 + x.toNat)
theorem nuW_nat : ∀ (l : List (BitVec 8)) (a : BitVec 64) (k : Nat), l.length + k ≤ 8 → a.toNat < 256 ^ k → (nuW l a).toNat = beN l a.toNat
 | [], a, k, _, _ => rfl
 | x :: l, a, k, h, ha => by
  have hx := x.isLt
  simp only [List.length_cons] at h
  have hk : 256 ^ k ≤ 256 ^ 7 := Nat.pow_le_pow_right (by decide) (by omega)
  have h1 := or8 a x (by omega)
  rw [nuW, beN, ← h1]
  refine nuW_nat l _ (k + 1) (by omega) ?_
  rw [h1, Nat.pow_succ]
  omega
theorem nuW_be8 (n : BitVec 64) : nuW (beW 8 n) 0#64 = n := by
 apply BitVec.eq_of_toNat_eq
 rw [nuW_nat (beW 8 n) 0#64 0 (by rw [beW_len]; decide) (by decide)]
 have hn := n.isLt
 have e : ∀ k : Nat, ((n >>> k).setWidth 8).toNat = n.toNat / 2 ^ k % 256 := fun k => by
  rw [BitVec.toNat_setWidth, BitVec.toNat_ushiftRight, Nat.shiftRight_eq_div_pow]
 have hb : beW 8 n = [(n >>> 56).setWidth 8, (n >>> 48).setWidth 8, (n >>> 40).setWidth 8, (n >>> 32).setWidth 8, (n >>> 24).setWidth 8, (n >>> 16).setWidth 8, (n >>> 8).setWidth 8, (n >>> 0).setWidth 8] := by simp [beW, List.range_succ]
 rw [hb]
 simp only [beN, e, BitVec.toNat_ofNat]
 omega
theorem nuW_be2 (m : Nat) (h : m < 65536) : nuW (beW 2 (BitVec.ofInt 64 (m : Int))) 0#64 = BitVec.ofNat 64 m := by
 apply BitVec.eq_of_toNat_eq
 rw [nuW_nat _ 0#64 0 (by rw [beW_len]; decide) (by decide)]
 have e : ∀ k : Nat, (((BitVec.ofInt 64 (m : Int)) >>> k).setWidth 8).toNat = m / 2 ^ k % 256 := fun k => by
  rw [BitVec.toNat_setWidth, BitVec.toNat_ushiftRight, Nat.shiftRight_eq_div_pow, BitVec.toNat_ofInt]
  have : ((m : Int) % ((2 ^ 64 : Nat) : Int)).toNat = m := by omega
  rw [this]
 have hb : beW 2 (BitVec.ofInt 64 (m : Int)) = [((BitVec.ofInt 64 (m : Int)) >>> 8).setWidth 8, ((BitVec.ofInt 64 (m : Int)) >>> 0).setWidth 8] := by simp [beW, List.range_succ]
 rw [hb]
 simp only [beN, e, BitVec.toNat_ofNat]
 omega
/-! slots, marks, sectors -/
def sl32 (gen : BitVec 64) (area : Int) : List (BitVec 8) := [82#8, 76#8, 65#8, 89#8] ++ beW 8 gen ++ [BitVec.ofInt 8 area] ++ List.replicate 19 0#8
theorem sl32_len (gen : BitVec 64) (area : Int) : (sl32 gen area).length = 32 := by simp [sl32, beW_len]
def slotB (gen : BitVec 64) (area : Int) : List (BitVec 8) := sl32 gen area ++ sumS (sl32 gen area)
theorem slotB_len (gen : BitVec 64) (area : Int) : (slotB gen area).length = 64 := by rw [slotB, List.length_append, sl32_len, sumS_len]
def tdG (b : List (BitVec 8)) : BitVec 64 := nuW ((b.drop 4).take 8) 0#64
def tdA (b : List (BitVec 8)) : Int := ((b.getD 12 0#8).toNat : Int)
def tdOk (b : List (BitVec 8)) : Bool := decide (tdA b < 2) && decide (b = slotB (tdG b) (tdA b))
def mkP (gen : BitVec 64) (k : Nat) (e : List (BitVec 8)) : List (BitVec 8) := beW 8 gen ++ beW 4 (BitVec.ofInt 64 (k : Int)) ++ beW 2 (BitVec.ofInt 64 (e.length : Int)) ++ e
def mkB (gen : BitVec 64) (k : Nat) (e : List (BitVec 8)) : List (BitVec 8) := (sumS (mkP gen k e)).take 16
theorem mkB_len (gen : BitVec 64) (k : Nat) (e : List (BitVec 8)) : (mkB gen k e).length = 16 := by rw [mkB, List.length_take, sumS_len]; rfl
/-- A sector that holds an entry. -/
def secB (gen : BitVec 64) (k : Nat) (e : List (BitVec 8)) : List (BitVec 8) := mkB gen k e ++ beW 2 (BitVec.ofInt 64 (e.length : Int)) ++ e ++ List.replicate (64 - (18 + e.length)) 0#8
theorem secB_len {gen : BitVec 64} {k : Nat} {e : List (BitVec 8)} (h : e.length ≤ 46) : (secB gen k e).length = 64 := by
 simp [secB, mkB_len, beW_len]; omega

attribute [local irreducible] sumS
set_option maxHeartbeats 2000000 in
theorem c_BEq {a : List (BitVec 8)} {Aa : Option Addr} {na ca ba qa : Nat} {b : List (BitVec 8)} {Ab : Option Addr} {nb cb bb qb : Nat} (hna : a.length = na) (hAa : 0 < na → Aa = some ⟨ba, qa, none⟩) (hnb : b.length = nb) (hAb : 0 < nb → Ab = some ⟨bb, qb, none⟩) (hl : na ≤ 1000000) :
  Con Try.prog 58 [.slice Aa na ca, .slice Ab nb cb] [pRow ba qa a, pRow bb qb b] (fun v rs => v = .bool (decide (a = b)) ∧ rs = []) := by
 refine Con.enter Try.func58 Try.ntmps58 (Nat.le_of_ble_eq_true rfl) rfl fun w => ?_
 refine At.seq ?_
 refine At.region ?_
 refine At.p (some 4) (P_assign rfl rfl) ?_
 refine At.nil ?_
 refine At.next ?_
 refine At.seq ?_
 refine At.region ?_
 refine At.p (some 5) (P_move rfl rfl) ?_
 refine At.q (some 6) (Q_strA (l := a) (n := na) (k := 0) LN rfl Try.underlying27 Try.underlying5 Try.underlying9 rfl hAa (fun _ => ⟨rfl, rfl, rfl⟩)) ?_
 refine At.p (some 7) (P_move rfl rfl) ?_
 refine At.q (some 8) (Q_strA (l := b) (n := nb) (k := 1) LN rfl Try.underlying27 Try.underlying5 Try.underlying9 rfl hAb (fun _ => ⟨rfl, rfl, rfl⟩)) ?_
 refine At.p (some 9) (P_eql_str (a := a) (b := b) rfl rfl rfl) ?_
 refine At.p (some 4) (P_assign rfl rfl) ?_
 refine At.nil ?_
 refine At.next ?_
 refine At.ret ?_
 refine At.give (.inl rfl) [] (rows' := []) (vs := [_]) rfl ⟨rfl, trivial⟩ rfl (by simp) (by simp) ⟨rfl, rfl⟩

set_option maxHeartbeats 2000000 in
theorem c_BClone {b : List (BitVec 8)} {Ab : Option Addr} {nb cb bb qb : Nat} (hnb : b.length = nb) (hAb : 0 < nb → Ab = some ⟨bb, qb, none⟩) (hl : nb ≤ 1000000) :
  Con Try.prog 51 [.slice Ab nb cb] [pRow bb qb b] (fun v rs => ∃ (A' : Option Addr) (b' c' : Nat), (0 < c' → A' = some ⟨b', 0, none⟩) ∧ b.length ≤ c' ∧ v = .slice A' b.length c' ∧ rs = [⟨true, b', 0, 5, (b).map u8V, c' - (b).length⟩]) := by
 refine Con.enter Try.func51 Try.ntmps51 (Nat.le_of_ble_eq_true rfl) rfl fun w => ?_
 refine At.seq ?_
 refine At.region ?_
 refine At.p (some 2) (P_assign rfl rfl) ?_
 refine At.nil ?_
 refine At.next ?_
 refine At.seq ?_
 refine At.seq ?_
 refine At.region ?_
 refine At.p (some 3) (P_move rfl rfl) ?_
 refine At.p (some 4) (P_eql_slnil rfl Try.underlying27 rfl rfl) ?_
 refine At.nil ?_
 refine At.next ?_
 refine At.cond rfl (fun h4 => ?_) (fun h4 => ?_)
 · -- cond 4 t
  refine At.seq ?_
  refine At.region ?_
  refine At.p (some 2) (P_assign rfl rfl) ?_
  refine At.nil ?_
  refine At.next ?_
  refine At.ret ?_
  refine At.thn_r ?_
  refine At.empty 990 0 5 ?_
  have hq0 : ([] : List (BitVec 8)) = b := (by have h0 : nb = 0 := Nat.eq_zero_of_not_pos (fun h => by have h2 := hAb h; rw [h2] at h4; cases h4); exact (List.eq_nil_of_length_eq_zero (hnb.trans h0)).symm)
  refine At.give (.inl rfl) [990] (rows' := [_]) (vs := [_]) rfl ⟨rfl, trivial⟩ rfl (by simp) (by simp) ⟨none, 0, 0, (fun h => absurd h (Nat.lt_irrefl 0)), (by rw [← hq0]; exact Nat.le_refl _), (by first | (rw [hq0]; try rfl; done) | (rw [← hq0]; try rfl; done) | (simp only [hq0]; try rfl; done) | (simp only [← hq0]; try rfl; done) | rfl), (by first | (rw [hq0]; try rfl; done) | (rw [← hq0]; try rfl; done) | (simp only [hq0]; try rfl; done) | (simp only [← hq0]; try rfl; done) | rfl)⟩
 · -- cond 4 f
  refine At.skip ?_
  refine At.next ?_
  refine At.seq ?_
  refine At.region ?_
  refine At.s (S_buildSlice0 (some 5) 5 rfl Try.underlying27 sz5 (fun b5 => ?_))
  refine At.p (some 6) (P_move rfl rfl) ?_
  refine At.s (S_appendM (some 7) 5 (b) (f := u8V) (l := []) (L := b) (m := nb) rfl Try.underlying27 Try.underlying27 (.inr ⟨_, rfl⟩) sz5 by5 ze5 rfl rfl (fun h => ⟨rfl, rfl⟩) LN OG (Src.all (k := 0) (l := b) rfl hAb (fun _ => ⟨rfl, rfl, rfl⟩) LN) (fun _ => rfl) OG OG rfl LN ?_)
  intro A7 b7 c7 g7a g7b
  refine At.p (some 2) (P_assign rfl rfl) ?_
  refine At.nil ?_
  refine At.next ?_
  refine At.ret ?_
  refine At.give (.inl rfl) [5] (rows' := [_]) (vs := [_]) rfl ⟨rfl, trivial⟩ rfl (by simp) (by simp) ⟨A7, b7, c7, g7a, (by first | omega | (simp; done) | (simp <;> omega) | exact Nat.le_refl _), rfl, rfl⟩

set_option maxHeartbeats 2000000 in
theorem c_Need {n : Nat} (hn : n ≤ 1000000) :
  Con Try.prog 26 [iV (n : Int)] [] (fun v rs => v = iV ((n + 81) / 64 : Nat) ∧ rs = []) := by
 refine Con.enter Try.func26 Try.ntmps26 (Nat.le_of_ble_eq_true rfl) rfl fun w => ?_
 refine At.seq ?_
 refine At.region ?_
 refine At.p (some 2) (P_assign rfl rfl) ?_
 refine At.nil ?_
 refine At.next ?_
 refine At.seq ?_
 refine At.region ?_
 refine At.p (some 3) (P_move rfl rfl) ?_
 refine At.p (some 4) (P_add_i rfl rfl rfl (by omega)) ?_
 refine At.p (some 5) (P_add_i rfl rfl rfl (by omega)) ?_
 refine At.p (some 6) (P_sub_i rfl rfl rfl (by omega)) ?_
 refine At.p (some 7) (P_quo_i rfl rfl rfl (by omega) (by omega) (by first | decide | omega)) ?_
 refine At.p (some 2) (P_assign rfl rfl) ?_
 refine At.nil ?_
 refine At.next ?_
 refine At.ret ?_
 have hq0 : ((((((n : Int) + 18) + 64) - 1) / 64) : Int) = ((n + 81) / 64 : Nat) := (by omega)
 refine At.give (.inl rfl) [] (rows' := []) (vs := [_]) rfl ⟨rfl, trivial⟩ rfl (by simp) (by simp) ⟨(by first | (rw [hq0]; try rfl; done) | (rw [← hq0]; try rfl; done) | (simp only [hq0]; try rfl; done) | (simp only [← hq0]; try rfl; done) | rfl), (by first | (rw [hq0]; try rfl; done) | (rw [← hq0]; try rfl; done) | (simp only [hq0]; try rfl; done) | (simp only [← hq0]; try rfl; done) | rfl)⟩

set_option maxHeartbeats 2000000 in
theorem c_big {b : List (BitVec 8)} {Ab : Option Addr} {cb bb : Nat} {n : BitVec 64} {sz : Nat} (hAb : 0 < cb → Ab = some ⟨bb, 0, none⟩) (hcb : b.length ≤ cb) (hl : b.length ≤ 100000) (hs : sz ≤ 8) :
  Con Try.prog 53 [.slice Ab b.length cb, u64V n, iV (sz : Int)] [⟨true, bb, 0, 5, (b).map u8V, cb - (b).length⟩] (fun v rs => ∃ (A' : Option Addr) (b' c' : Nat), (0 < c' → A' = some ⟨b', 0, none⟩) ∧ (b ++ beW sz n).length ≤ c' ∧ v = .slice A' (b ++ beW sz n).length c' ∧ rs = [⟨true, b', 0, 5, (b ++ beW sz n).map u8V, c' - (b ++ beW sz n).length⟩]) := by
 refine Con.enter Try.func53 Try.ntmps53 (Nat.le_of_ble_eq_true rfl) rfl fun w => ?_
 refine At.seq ?_
 refine At.region ?_
 refine At.p (some 6) (P_assign rfl rfl) ?_
 refine At.nil ?_
 refine At.next ?_
 refine At.seq ?_
 refine At.seq ?_
 refine At.region ?_
 refine At.p (some 8) (P_move rfl rfl) ?_
 refine At.p (some 9) (P_sub_i rfl rfl rfl (by omega)) ?_
 refine At.p (some 7) (P_assign rfl rfl) ?_
 refine At.nil ?_
 refine At.next ?_
 refine At.block ?_
 refine At.loopx (I := fun m fr H => ∃ (k : Nat) (A0 : Option Addr) (b0 c0 : Nat), m = 2 * (sz - k) ∧ fr = frOf [(0, .slice A0 ((b ++ (beW sz n).take k).length) c0), (1, u64V n), (2, iV (sz : Int)), (6, .slice none 0 0), (7, iV ((sz : Int) - 1 - (k : Int))), (8, iV (sz : Int)), (9, iV ((sz : Int) - 1))] ∧ H = hOf [(0, ⟨true, b0, 0, 5, ((b ++ (beW sz n).take k)).map u8V, c0 - ((b ++ (beW sz n).take k)).length⟩)] ∧ (0 < c0 → A0 = some ⟨b0, 0, none⟩) ∧ ((b ++ (beW sz n).take k).length ≤ c0) ∧ (k ≤ sz)) ?_ ?_
 ·
  intro Kc0 hKc0
  refine At.to [(0, .slice Ab ((b ++ (beW sz n).take 0).length) cb), (1, _), (2, _), (6, _), (7, iV ((sz : Int) - 1 - ((0 : Nat) : Int))), (8, _), (9, _)] [(0, ⟨true, bb, 0, 5, ((b ++ (beW sz n).take 0)).map u8V, cb - ((b ++ (beW sz n).take 0)).length⟩)] (AllL.cons_ ((by rw [List.take_zero, List.append_nil]; rfl)) (AllL.cons_ (rfl) (AllL.cons_ (rfl) (AllL.cons_ (rfl) (AllL.cons_ ((congrArg (fun z : Int => some (iV z)) (by omega))) (AllL.cons_ (rfl) (AllL.cons_ (rfl) trivial))))))) (AllL.cons_ ((by rw [List.take_zero, List.append_nil]; rfl)) trivial) ?_
  exact hKc0 _ _ _ ⟨0, Ab, bb, cb, rfl, rfl, rfl, hAb, (by first | omega | (simp; done) | (simp <;> omega) | exact Nat.le_refl _), (by omega)⟩
 ·
  rintro m fr H ⟨k, A0, b0, c0, rfl, rfl, rfl, g0a, g0b, hk⟩ Kc0 hKc0
  have hbl := beW_len sz n
  have htl : ((beW sz n).take k).length = k := by rw [List.length_take]; omega
  refine At.seq ?_
  refine At.seq ?_
  refine At.region ?_
  refine At.p (some 10) (P_move rfl rfl) ?_
  refine At.p (some 11) (P_cmp rfl rfl rfl rfl rfl rfl) ?_
  refine At.nil ?_
  refine At.next ?_
  refine At.cond rfl (fun h11 => ?_) (fun h11 => ?_)
  · -- cond 11 t
   have e11 : ((sz : Int) - 1 - (k : Int)) ≥ 0 := of_decide_eq_true h11
   refine At.skip ?_
   refine At.next ?_
   refine At.seq ?_
   refine At.block ?_
   refine At.region ?_
   refine At.p (some 14) (P_move rfl rfl) ?_
   refine At.p (some 15) (P_move rfl rfl) ?_
   refine At.p (some 16) (P_move rfl rfl) ?_
   refine At.p (some 17) (P_mul_i rfl rfl rfl (by omega)) ?_
   refine At.p (some 18) (P_shr_w UK.u64 (n := 64) rfl rfl rfl (by first | decide | omega)) ?_
   refine At.p (some 19) (P_conv_ww UK.u8 (m := 64) rfl Try.underlying22 Try.underlying5 rfl) ?_
   refine At.s (S_buildSliceV (some 20) 20 (([((n >>> ((8 * ((sz : Int) - 1 - (k : Int))) : Int).toNat).setWidth 8)]).map u8V) rfl Try.underlying27 sz5 ze5 rfl rfl (by decide) (by decide) rfl rfl (fun b20 => ?_))
   refine At.s (S_appendM (some 21) 0 ((b ++ (beW sz n).take (k + 1))) (f := u8V) (l := (b ++ (beW sz n).take k)) (L := [((n >>> ((8 * ((sz : Int) - 1 - (k : Int))) : Int).toNat).setWidth 8)]) (m := 1) rfl Try.underlying27 Try.underlying27 (.inr ⟨_, rfl⟩) sz5 by5 ze5 rfl rfl (fun h => ⟨g0a h, rfl⟩) LN OG (Src.all (k := 20) (l := [((n >>> ((8 * ((sz : Int) - 1 - (k : Int))) : Int).toNat).setWidth 8)]) rfl (fun _ => rfl) (fun _ => ⟨rfl, rfl, rfl⟩) LN) (fun _ => rfl) OG OG (by rw [beW_succ (by omega), List.append_assoc, show (8 * ((sz : Int) - 1 - (k : Int))).toNat = 8 * (sz - 1 - k) by omega]) LN ?_)
   intro A21 b21 c21 g21a g21b
   refine At.p (some 0) (P_assign rfl rfl) ?_
   refine At.nil ?_
   refine At.inb_n ?_
   refine At.next ?_
   refine At.region ?_
   refine At.p (some 12) (P_move rfl rfl) ?_
   refine At.p (some 13) (P_sub_i rfl rfl rfl (by omega)) ?_
   refine At.p (some 7) (P_assign rfl rfl) ?_
   refine At.nil ?_
   refine At.next ?_
   refine At.to [(0, _), (1, _), (2, _), (6, _), (7, iV ((sz : Int) - 1 - ((k + 1 : Nat) : Int))), (8, _), (9, _)] [(0, _)] (AllL.cons_ (rfl) (AllL.cons_ (rfl) (AllL.cons_ (rfl) (AllL.cons_ (rfl) (AllL.cons_ ((congrArg (fun z : Int => some (iV z)) (by omega))) (AllL.cons_ (rfl) (AllL.cons_ (rfl) trivial))))))) (AllL.cons_ (rfl) trivial) ?_
   exact hKc0 _ _ _ (by omega) ⟨k + 1, A21, b21, c21, rfl, rfl, rfl, g21a, (by first | omega | (simp; done) | (simp <;> omega) | exact Nat.le_refl _), (by omega)⟩
  · -- cond 11 f
   have e11 : ¬ ((sz : Int) - 1 - (k : Int)) ≥ 0 := of_decide_eq_false h11
   refine At.exit ?_
   refine At.thn_e ?_
   refine At.thn_e ?_
   refine At.inb_hit ?_
   refine At.next ?_
   refine At.seq ?_
   refine At.region ?_
   refine At.p (some 22) (P_move rfl rfl) ?_
   refine At.p (some 6) (P_assign rfl rfl) ?_
   refine At.nil ?_
   refine At.next ?_
   refine At.ret ?_
   have hq0 : (b ++ (beW sz n).take k) = b ++ beW sz n := (by rw [show k = sz by omega, List.take_of_length_le (Nat.le_of_eq (beW_len _ _))])
   refine At.give (.inl rfl) [0] (rows' := [_]) (vs := [_]) rfl ⟨rfl, trivial⟩ rfl (by simp) (by simp) ⟨A0, b0, c0, g0a, (by rw [← hq0]; first | omega | (simp; done) | (simp <;> omega) | exact Nat.le_refl _), (by first | (rw [hq0]; try rfl; done) | (rw [← hq0]; try rfl; done) | (simp only [hq0]; try rfl; done) | (simp only [← hq0]; try rfl; done) | rfl), (by first | (rw [hq0]; try rfl; done) | (rw [← hq0]; try rfl; done) | (simp only [hq0]; try rfl; done) | (simp only [← hq0]; try rfl; done) | rfl)⟩

set_option maxHeartbeats 2000000 in
theorem c_num {b : List (BitVec 8)} {Ab : Option Addr} {nb cb bb qb : Nat} (hnb : b.length = nb) (hAb : 0 < nb → Ab = some ⟨bb, qb, none⟩) (hl : nb ≤ 100000) :
  Con Try.prog 57 [.slice Ab nb cb] [pRow bb qb b] (fun v rs => v = u64V (nuW b 0#64) ∧ rs = []) := by
 refine Con.enter Try.func57 Try.ntmps57 (Nat.le_of_ble_eq_true rfl) rfl fun w => ?_
 refine At.seq ?_
 refine At.region ?_
 refine At.p (some 2) (P_assign rfl rfl) ?_
 refine At.nil ?_
 refine At.next ?_
 refine At.seq ?_
 refine At.region ?_
 refine At.p (some 3) (P_assign rfl rfl) ?_
 refine At.nil ?_
 refine At.next ?_
 refine At.seq ?_
 refine At.seq ?_
 refine At.region ?_
 refine At.p (some 6) (P_move rfl rfl) ?_
 refine At.p (some 7) (P_len_sl rfl rfl ⟨_, Try.underlying27⟩ rfl) ?_
 refine At.p (some 8) (P_move rfl rfl) ?_
 refine At.nil ?_
 refine At.next ?_
 refine At.block ?_
 refine At.loopx (I := fun m fr H => ∃ (k : Nat), m = nb - k ∧ fr = frOf [(0, .slice Ab nb cb), (2, u64V (0#64)), (3, u64V (nuW (b.take k) 0#64)), (6, .slice Ab nb cb), (7, iV (nb : Int)), (8, iV (k : Int))] ∧ H = hOf [(0, pRow bb qb b)] ∧ (k ≤ nb)) ?_ ?_
 ·
  intro Kc0 hKc0
  refine At.to [(0, _), (2, _), (3, u64V (nuW (b.take 0) 0#64)), (6, _), (7, _), (8, _)] [(0, _)] (AllL.cons_ (rfl) (AllL.cons_ (rfl) (AllL.cons_ (rfl) (AllL.cons_ (rfl) (AllL.cons_ (rfl) (AllL.cons_ (rfl) trivial)))))) (AllL.cons_ (rfl) trivial) ?_
  exact hKc0 _ _ _ ⟨0, rfl, rfl, rfl, (by omega)⟩
 ·
  rintro m fr H ⟨k, rfl, rfl, rfl, hk⟩ Kc0 hKc0
  refine At.seq ?_
  refine At.region ?_
  refine At.p (some 9) (P_cmp rfl rfl rfl rfl rfl rfl) ?_
  refine At.nil ?_
  refine At.next ?_
  refine At.seq ?_
  refine At.cond rfl (fun h9 => ?_) (fun h9 => ?_)
  · -- cond 9 t
   have e9 : (k : Int) < (nb : Int) := of_decide_eq_true h9
   refine At.skip ?_
   refine At.next ?_
   refine At.seq ?_
   refine At.block ?_
   refine At.seq ?_
   refine At.region ?_
   refine At.p (some 10) (P_indexAddr_sl1 (b := bb) (m := qb) (j := k) rfl Try.underlying27 sz5 rfl (hAb OG) rfl RO OG) ?_
   refine At.q (some 11) (Q_loadR (k := 0) (f := u8V) (l := b) (j := k) (0#8) rfl rfl Try.underlying5 rfl rfl rfl OG) ?_
   refine At.p (some 5) (P_assign rfl rfl) ?_
   refine At.nil ?_
   refine At.next ?_
   refine At.region ?_
   refine At.p (some 12) (P_move rfl rfl) ?_
   refine At.p (some 13) (P_shl_w UK.u64 (n := 64) rfl rfl rfl (by first | decide | omega)) ?_
   refine At.p (some 14) (P_move rfl rfl) ?_
   refine At.p (some 15) (P_conv_ww UK.u64 (m := 8) rfl Try.underlying5 Try.underlying22 rfl) ?_
   refine At.p (some 16) (P_or_w UK.u64 rfl rfl rfl) ?_
   refine At.p (some 3) (P_assign rfl rfl) ?_
   refine At.nil ?_
   refine At.inb_n ?_
   refine At.next ?_
   refine At.region ?_
   refine At.p (some 17) (P_add_i rfl rfl rfl (by omega)) ?_
   refine At.p (some 8) (P_move rfl rfl) ?_
   refine At.nil ?_
   refine At.next ?_
   refine At.to [(0, _), (2, _), (3, u64V (nuW (b.take (k + 1)) 0#64)), (6, _), (7, _), (8, _)] [(0, _)] (AllL.cons_ (rfl) (AllL.cons_ (rfl) (AllL.cons_ ((congrArg (fun z => some (u64V z)) (nuW_succ _ _ _ (by omega)).symm)) (AllL.cons_ (rfl) (AllL.cons_ (rfl) (AllL.cons_ (rfl) trivial)))))) (AllL.cons_ (rfl) trivial) ?_
   exact hKc0 _ _ _ (by omega) ⟨k + 1, rfl, rfl, rfl, (by omega)⟩
  · -- cond 9 f
   have e9 : ¬ (k : Int) < (nb : Int) := of_decide_eq_false h9
   refine At.exit ?_
   refine At.thn_e ?_
   refine At.thn_e ?_
   refine At.inb_hit ?_
   refine At.next ?_
   refine At.seq ?_
   refine At.region ?_
   refine At.p (some 18) (P_move rfl rfl) ?_
   refine At.p (some 2) (P_assign rfl rfl) ?_
   refine At.nil ?_
   refine At.next ?_
   refine At.ret ?_
   have hq0 : (nuW (b.take k) 0#64) = nuW b 0#64 := (by rw [List.take_of_length_le (by omega)])
   refine At.give (.inl rfl) [] (rows' := []) (vs := [_]) rfl ⟨rfl, trivial⟩ rfl (by simp) (by simp) ⟨(by first | (rw [hq0]; try rfl; done) | (rw [← hq0]; try rfl; done) | (simp only [hq0]; try rfl; done) | (simp only [← hq0]; try rfl; done) | rfl), (by first | (rw [hq0]; try rfl; done) | (rw [← hq0]; try rfl; done) | (simp only [hq0]; try rfl; done) | (simp only [← hq0]; try rfl; done) | rfl)⟩

set_option maxHeartbeats 2000000 in
theorem c_slot {gen : BitVec 64} {area : Int}  :
  Con Try.prog 45 [u64V gen, iV area] [] (fun v rs => ∃ (A' : Option Addr) (b' c' : Nat), (0 < c' → A' = some ⟨b', 0, none⟩) ∧ (slotB gen area).length ≤ c' ∧ v = .slice A' (slotB gen area).length c' ∧ rs = [⟨true, b', 0, 5, (slotB gen area).map u8V, c' - (slotB gen area).length⟩]) := by
 refine Con.enter Try.func45 Try.ntmps45 (Nat.le_of_ble_eq_true rfl) rfl fun w => ?_
 refine At.seq ?_
 refine At.region ?_
 refine At.p (some 4) (P_assign rfl rfl) ?_
 refine At.nil ?_
 refine At.next ?_
 refine At.seq ?_
 refine At.region ?_
 refine At.s (S_buildSliceV (some 7) 7 (([82#8, 76#8, 65#8, 89#8]).map u8V) rfl Try.underlying27 sz5 ze5 rfl rfl (by decide) (by decide) rfl ⟨rfl, rfl, rfl, rfl⟩ (fun b7 => ?_))
 refine At.s (S_convB (some 8) (k := 7) rfl Try.underlying27 Try.underlying5 rfl rfl (by simp) ?_)
 refine At.p (some 9) (P_move rfl rfl) ?_
 refine At.s (S_callR (some 10) [(7, _)] [] [10] (vs := [_, _, _]) rfl en53 rfl (ON rfl rfl O0) (by simp) V0 (by simp) (c_big (b := [82#8, 76#8, 65#8, 89#8]) (Ab := (some ⟨b7, 0, none⟩)) (cb := 4) (bb := b7) (n := gen) (sz := 8) (fun _ => rfl) OG OG OG) (by rintro _ _ ⟨A10, b10, c10, g10a, g10b, rfl, rfl⟩; rfl) ?_)
 rintro _ _ ⟨A10, b10, c10, g10a, g10b, rfl, rfl⟩
 have := beW_len 8 gen
 refine At.p (some 11) (P_move rfl rfl) ?_
 refine At.p (some 12) (P_conv_iw UK.u8 rfl Try.underlying3 Try.underlying5 rfl) ?_
 refine At.s (S_buildSliceV (some 13) 13 (([(BitVec.ofInt 8 area)]).map u8V) rfl Try.underlying27 sz5 ze5 rfl rfl (by decide) (by decide) rfl rfl (fun b13 => ?_))
 refine At.s (S_appendM (some 14) 10 (([82#8, 76#8, 65#8, 89#8] ++ beW 8 gen ++ [(BitVec.ofInt 8 area)])) (f := u8V) (l := ([82#8, 76#8, 65#8, 89#8] ++ beW 8 gen)) (L := [(BitVec.ofInt 8 area)]) (m := 1) rfl Try.underlying27 Try.underlying27 (.inr ⟨_, rfl⟩) sz5 by5 ze5 rfl rfl (fun h => ⟨g10a h, rfl⟩) LN OG (Src.all (k := 13) (l := [(BitVec.ofInt 8 area)]) rfl (fun _ => rfl) (fun _ => ⟨rfl, rfl, rfl⟩) LN) (fun _ => rfl) OG OG rfl LN ?_)
 intro A14 b14 c14 g14a g14b
 have hl14 : ([82#8, 76#8, 65#8, 89#8] ++ beW 8 gen ++ [BitVec.ofInt 8 area]).length = 13 := by simp [beW_len]
 refine At.p (some 5) (P_assign rfl rfl) ?_
 refine At.nil ?_
 refine At.next ?_
 refine At.seq ?_
 refine At.region ?_
 refine At.p (some 15) (P_move rfl rfl) ?_
 refine At.p (some 16) (P_move rfl rfl) ?_
 refine At.p (some 17) (P_len_sl rfl rfl ⟨_, Try.underlying27⟩ rfl) ?_
 refine At.p (some 18) (P_sub_i rfl rfl rfl (by omega)) ?_
 refine At.s (S_appendZ (some 19) 10 (sl32 gen area) (0#8) (f := u8V) (l := ([82#8, 76#8, 65#8, 89#8] ++ beW 8 gen ++ [(BitVec.ofInt 8 area)])) (m := 19) rfl Try.underlying27 Try.underlying3 sz5 by5 ze5 rfl rfl (fun h => ⟨g14a h, rfl⟩) LN OG rfl RO (fun _ => rfl) OG OG rfl ?_)
 intro A19 b19 c19 g19a g19b
 refine At.p (some 5) (P_assign rfl rfl) ?_
 refine At.nil ?_
 refine At.next ?_
 refine At.seq ?_
 have hs32 := sl32_len gen area
 refine At.region ?_
 refine At.p (some 20) (P_move rfl rfl) ?_
 refine At.s (S_callV (some 21) [(10, _)] [] (vs := [_]) rfl en54 rfl (VN (by simp) rfl View.all V0) (by simp) (c_SumN (l := (sl32 gen area)) (n := ((sl32 gen area).length)) (A := A19) (bq := b19) (q := 0) LN (fun h => g19a (by omega)) OG) (by rintro _ _ ⟨rfl, rfl⟩; rfl) ?_)
 rintro _ _ ⟨rfl, rfl⟩
 have := sumS_len (sl32 gen area)
 refine At.s (S_alloc (some 6) 6 (zs := (List.replicate 32 0#8).map u8V) rfl ze91 rfl (fun b6 => ?_))
 refine At.s (S_storeA none (k := 6) (vs := (sumS (sl32 gen area)).map u8V) rfl rfl rfl (by rw [sz91]; exact congrArg some LN) rfl (one_map (fun _ => rfl)) NG rfl LN ?_)
 refine At.nil ?_
 refine At.next ?_
 refine At.seq ?_
 refine At.region ?_
 refine At.p (some 22) (P_move rfl rfl) ?_
 refine At.p (some 23) (P_slice_arr1 (l := 0) (h := 32) (m := 32) rfl Try.underlying91 sz5 rfl rfl rfl rfl DO DO DO DO) ?_
 refine At.s (S_appendM (some 24) 10 ((sl32 gen area ++ sumS (sl32 gen area))) (f := u8V) (l := (sl32 gen area)) (L := (sumS (sl32 gen area))) (m := 32) rfl Try.underlying27 Try.underlying27 (.inr ⟨_, rfl⟩) sz5 by5 ze5 rfl rfl (fun h => ⟨g19a h, rfl⟩) LN OG (Src.all (k := 6) (l := (sumS (sl32 gen area))) rfl (fun _ => rfl) (fun _ => ⟨rfl, rfl, rfl⟩) LN) (fun _ => rfl) OG OG rfl LN ?_)
 intro A24 b24 c24 g24a g24b
 refine At.p (some 4) (P_assign rfl rfl) ?_
 refine At.nil ?_
 refine At.next ?_
 refine At.ret ?_
 have hq0 : (sl32 gen area ++ sumS (sl32 gen area)) = slotB gen area := rfl
 refine At.give (.inl rfl) [10] (rows' := [_]) (vs := [_]) rfl ⟨rfl, trivial⟩ rfl (by simp) (by simp) ⟨A24, b24, c24, g24a, (by rw [← hq0]; first | omega | (simp; done) | (simp <;> omega) | exact Nat.le_refl _), (by first | (rw [hq0]; try rfl; done) | (rw [← hq0]; try rfl; done) | (simp only [hq0]; try rfl; done) | (simp only [← hq0]; try rfl; done) | rfl), (by first | (rw [hq0]; try rfl; done) | (rw [← hq0]; try rfl; done) | (simp only [hq0]; try rfl; done) | (simp only [← hq0]; try rfl; done) | rfl)⟩

set_option maxHeartbeats 2000000 in
theorem c_told {b : List (BitVec 8)} {Ab : Option Addr} {nb cb bb qb : Nat} (hnb : b.length = nb) (hAb : 0 < nb → Ab = some ⟨bb, qb, none⟩) (hcb : nb ≤ cb) (h64 : nb = 64) :
  Con Try.prog 52 [.slice Ab nb cb] [pRow bb qb b] (fun v rs => v = .tuple #[u64V (tdG b), iV (tdA b), .bool (tdOk b)] ∧ rs = []) := by
 refine Con.enter Try.func52 Try.ntmps52 (Nat.le_of_ble_eq_true rfl) rfl fun w => ?_
 refine At.seq ?_
 refine At.region ?_
 refine At.p (some 2) (P_assign rfl rfl) ?_
 refine At.p (some 3) (P_assign rfl rfl) ?_
 refine At.p (some 4) (P_assign rfl rfl) ?_
 refine At.nil ?_
 refine At.next ?_
 refine At.seq ?_
 refine At.draws 8 [] [.q false [0, 1, 2, 3, 4, 5, 6, 7]] (by kernel_rfl) (by kernel_rfl) ?_
 refine At.wp (some 7) (P_move rfl rfl) ?_
 refine At.wp (some 8) (P_slice_sl (l := 4) (h := 12) (m := cb) rfl Try.underlying27 sz5 rfl ⟨_, _, rfl, rfl⟩ ⟨_, _, rfl, rfl⟩ rfl DO DO DO) ?_
 refine At.wcV (some 9) [(0, _)] (vs := [_]) rfl en57 rfl (VN (by simp) rfl (View.sub (j := 4) (m := (12 - 4)) rfl rfl) V0) (c_num (b := ((b.drop 4).take (12 - 4))) (nb := (12 - 4)) (Ab := (cut Ab 4 cb 1)) (cb := (cb - 4)) (bb := bb) (qb := (qb + 4)) LN (fun h => cut_addr1 (hAb (by omega)) (by omega)) OG) ?_
 refine At.wp (some 10) (P_move rfl rfl) ?_
 refine At.wp (some 11) (P_indexAddr_sl1 (b := bb) (m := qb) (j := 12) rfl Try.underlying27 sz5 rfl (hAb OG) rfl rfl OG) ?_
 refine At.wq (some 12) (Q_loadR (k := 0) (f := u8V) (l := b) (j := 12) (0#8) rfl rfl Try.underlying5 rfl rfl rfl OG) ?_
 refine At.wp (some 13) (P_conv_wi UK.u8 (by decide) rfl Try.underlying5 Try.underlying3 rfl) ?_
 refine At.wp (some 5) (P_assign rfl rfl) ?_
 refine At.wqn ?_
 refine At.wt rfl ?_
 refine At.p (some 6) (P_assign rfl rfl) ?_
 refine At.nil ?_
 refine At.next ?_
 refine At.seq ?_
 refine At.region ?_
 refine At.p (some 14) (P_move rfl rfl) ?_
 refine At.p (some 15) (P_move rfl rfl) ?_
 refine At.p (some 16) (P_move rfl rfl) ?_
 refine At.p (some 17) (P_cmp rfl rfl rfl rfl rfl rfl) ?_
 refine At.p (some 18) (P_move rfl rfl) ?_
 refine At.gsplit (t := 18) (want := true) rfl (fun g1 => ?_) (fun g1 => ?_)
 ·
  have eg1 : ((b.getD 12 0#8).toNat : Int) < 2 := of_decide_eq_true g1
  refine At.gy (t := 18) rfl g1 rfl rfl ?_
  refine At.p (some 19) (P_move rfl rfl) ?_
  refine At.gy (t := 18) rfl g1 rfl rfl ?_
  refine At.p (some 20) (P_move rfl rfl) ?_
  refine At.gy (t := 18) rfl g1 rfl rfl ?_
  refine At.p (some 21) (P_move rfl rfl) ?_
  refine At.gy (t := 18) rfl g1 rfl rfl ?_
  refine At.s (S_callV (some 22) [] [22] (vs := [_, _]) rfl en45 rfl V0 (by simp) (c_slot (gen := (nuW ((b.drop 4).take (12 - 4)) 0#64)) (area := ((b.getD 12 0#8).toNat : Int)) ) (by rintro _ _ ⟨A22, b22, c22, g22a, g22b, rfl, rfl⟩; rfl) ?_)
  rintro _ _ ⟨A22, b22, c22, g22a, g22b, rfl, rfl⟩
  have := slotB_len (nuW ((b.drop 4).take (12 - 4)) 0#64) ((b.getD 12 0#8).toNat : Int)
  refine At.gy (t := 18) rfl g1 rfl rfl ?_
  refine At.s (S_callV (some 23) [(0, _), (22, _)] [] (vs := [_, _]) rfl en58 rfl (VN (by simp) rfl View.all (VN (by simp) rfl View.all V0)) (by simp) (c_BEq (a := b) (na := nb) (Aa := Ab) (ca := cb) (ba := bb) (qa := qb) (b := (slotB (nuW ((b.drop 4).take (12 - 4)) 0#64) ((b.getD 12 0#8).toNat : Int))) (nb := ((slotB (nuW ((b.drop 4).take (12 - 4)) 0#64) ((b.getD 12 0#8).toNat : Int)).length)) (Ab := A22) (cb := c22) (bb := b22) (qb := 0) LN hAb LN (fun h => g22a (by omega)) OG) (by rintro _ _ ⟨rfl, rfl⟩; rfl) ?_)
  rintro _ _ ⟨rfl, rfl⟩
  refine At.p (some 24) (P_pick_t rfl rfl g1 rfl) ?_
  refine At.p (some 2) (P_assign rfl rfl) ?_
  refine At.p (some 3) (P_assign rfl rfl) ?_
  refine At.p (some 4) (P_assign rfl rfl) ?_
  refine At.nil ?_
  refine At.next ?_
  refine At.ret ?_
  have hq0 : nuW ((b.drop 4).take (12 - 4)) 0#64 = tdG b := rfl
  have hq1 : (((b.getD 12 0#8).toNat : Int) : Int) = tdA b := rfl
  have hq2 : (decide (b = (slotB (nuW ((b.drop 4).take (12 - 4)) 0#64) ((b.getD 12 0#8).toNat : Int)))) = (tdOk b) := (by first | (rw [tdOk, decide_eq_true (p := tdA b < 2) (by assumption), Bool.true_and]; done) | (rw [tdOk, decide_eq_true (p := tdA b < 2) (of_decide_eq_true (by assumption)), Bool.true_and]; rfl) | (rw [tdOk, decide_eq_false (p := tdA b < 2) (of_decide_eq_false (by assumption)), Bool.false_and]) | (rw [tdOk, decide_eq_false (p := tdA b < 2) (by omega), Bool.false_and]))
  refine At.give (.inl rfl) [] (rows' := []) (vs := [_, _, _]) rfl ⟨rfl, rfl, rfl, trivial⟩ rfl (by simp) (by simp) ⟨(by first | (rw [hq0, hq1, hq2]; try rfl; done) | (rw [← hq0, ← hq1, ← hq2]; try rfl; done) | (simp only [hq0, hq1, hq2]; try rfl; done) | (simp only [← hq0, ← hq1, ← hq2]; try rfl; done) | rfl), (by first | (rw [hq0, hq1, hq2]; try rfl; done) | (rw [← hq0, ← hq1, ← hq2]; try rfl; done) | (simp only [hq0, hq1, hq2]; try rfl; done) | (simp only [← hq0, ← hq1, ← hq2]; try rfl; done) | rfl)⟩
 ·
  have eg1 : ¬ ((b.getD 12 0#8).toNat : Int) < 2 := of_decide_eq_false g1
  refine At.gn (some 19) (t := 18) rfl g1 rfl rfl ?_
  refine At.gn (some 20) (t := 18) rfl g1 rfl rfl ?_
  refine At.gn (some 21) (t := 18) rfl g1 rfl rfl ?_
  refine At.gn (some 22) (t := 18) rfl g1 rfl rfl ?_
  refine At.gn (some 23) (t := 18) rfl g1 rfl rfl ?_
  refine At.p (some 24) (P_pick_f rfl rfl g1 rfl) ?_
  refine At.p (some 2) (P_assign rfl rfl) ?_
  refine At.p (some 3) (P_assign rfl rfl) ?_
  refine At.p (some 4) (P_assign rfl rfl) ?_
  refine At.nil ?_
  refine At.next ?_
  refine At.ret ?_
  have hq0 : nuW ((b.drop 4).take (12 - 4)) 0#64 = tdG b := rfl
  have hq1 : (((b.getD 12 0#8).toNat : Int) : Int) = tdA b := rfl
  have hq2 : false = (tdOk b) := (by first | (rw [tdOk, decide_eq_true (p := tdA b < 2) (by assumption), Bool.true_and]; done) | (rw [tdOk, decide_eq_true (p := tdA b < 2) (of_decide_eq_true (by assumption)), Bool.true_and]; rfl) | (rw [tdOk, decide_eq_false (p := tdA b < 2) (of_decide_eq_false (by assumption)), Bool.false_and]) | (rw [tdOk, decide_eq_false (p := tdA b < 2) (by omega), Bool.false_and]))
  refine At.give (.inl rfl) [] (rows' := []) (vs := [_, _, _]) rfl ⟨rfl, rfl, rfl, trivial⟩ rfl (by simp) (by simp) ⟨(by first | (rw [hq0, hq1, hq2]; try rfl; done) | (rw [← hq0, ← hq1, ← hq2]; try rfl; done) | (simp only [hq0, hq1, hq2]; try rfl; done) | (simp only [← hq0, ← hq1, ← hq2]; try rfl; done) | rfl), (by first | (rw [hq0, hq1, hq2]; try rfl; done) | (rw [← hq0, ← hq1, ← hq2]; try rfl; done) | (simp only [hq0, hq1, hq2]; try rfl; done) | (simp only [← hq0, ← hq1, ← hq2]; try rfl; done) | rfl)⟩


end Go.Proofs.Ytdingfinclcbgaa

