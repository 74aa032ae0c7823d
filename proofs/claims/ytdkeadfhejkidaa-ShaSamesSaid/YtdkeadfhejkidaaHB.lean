import Derived.Test.YtdkeadfhejkidaaHA
namespace Go.Proofs.Ytdkeadfhejkidaa
set_option maxRecDepth 20000
set_option linter.unusedVariables false
set_option linter.unusedSimpArgs false
open Go.SE Go.RowKit

def wStep (b : List (BitVec 8)) (w : List (BitVec 32)) (i : Nat) : List (BitVec 32) := w.set (i / 4) (w.getD (i / 4) 0#32 <<< 8 ||| (b.getD i 0#8).setWidth 32)
def wTo (b : List (BitVec 8)) : Nat → List (BitVec 32)
  | 0 => List.replicate 64 0#32
  | i + 1 => wStep b (wTo b i) i
theorem wTo_len (b : List (BitVec 8)) (i : Nat) : (wTo b i).length = 64 := by
  induction i with
  | zero => simp [wTo]
  | succ i ih => simp [wTo, wStep, ih]
def sprAt (w : List (BitVec 32)) (i : Nat) : BitVec 32 := w.getD (i - 16) 0#32 + w.getD (i - 7) 0#32 + (rotR (w.getD (i - 15) 0#32) 7 ^^^ rotR (w.getD (i - 15) 0#32) 18 ^^^ w.getD (i - 15) 0#32 >>> 3) + (rotR (w.getD (i - 2) 0#32) 17 ^^^ rotR (w.getD (i - 2) 0#32) 19 ^^^ w.getD (i - 2) 0#32 >>> 10)
def sTo (b : List (BitVec 8)) : Nat → List (BitVec 32)
  | 0 => wTo b 64
  | k + 1 => (sTo b k).set (16 + k) (sprAt (sTo b k) (16 + k))
theorem sTo_len (b : List (BitVec 8)) (i : Nat) : (sTo b i).length = 64 := by
  induction i with
  | zero => exact wTo_len b 64
  | succ i ih => simp [sTo, ih]
def spreadS (b : List (BitVec 8)) : List (BitVec 32) := sTo b 48
theorem wTo_congr {b c : List (BitVec 8)} : ∀ {n : Nat}, (∀ j, j < n → b.getD j 0#8 = c.getD j 0#8) → wTo b n = wTo c n
  | 0, _ => rfl
  | n + 1, h => by rw [wTo, wTo, wTo_congr fun j hj => h j (by omega), wStep, wStep, h n (by omega)]
theorem spread_take (b : List (BitVec 8)) : spreadS (b.take 64) = spreadS b := by
  have e : wTo (b.take 64) 64 = wTo b 64 := wTo_congr fun j hj => by simp [List.getD_eq_getElem?_getD, List.getElem?_take, hj]
  have : ∀ k, sTo (b.take 64) k = sTo b k := fun k => by
    induction k with
    | zero => exact e
    | succ k ih => rw [sTo, sTo, ih]
  exact this 48
def chS (e f g : BitVec 32) : BitVec 32 := e &&& f ||| ~~~ e &&& g
def majS (a b c : BitVec 32) : BitVec 32 := a &&& b ||| a &&& c ||| b &&& c
def tS (v : List (BitVec 32)) (k w : BitVec 32) : BitVec 32 := v.getD 7 0#32 + (rotR (v.getD 4 0#32) 6 ^^^ rotR (v.getD 4 0#32) 11 ^^^ rotR (v.getD 4 0#32) 25) + chS (v.getD 4 0#32) (v.getD 5 0#32) (v.getD 6 0#32) + k + w
def uS (v : List (BitVec 32)) : BitVec 32 := (rotR (v.getD 0 0#32) 2 ^^^ rotR (v.getD 0 0#32) 13 ^^^ rotR (v.getD 0 0#32) 22) + majS (v.getD 0 0#32) (v.getD 1 0#32) (v.getD 2 0#32)
def rnd (v : List (BitVec 32)) (k w : BitVec 32) : List (BitVec 32) := [tS v k w + uS v, v.getD 0 0#32, v.getD 1 0#32, v.getD 2 0#32, v.getD 3 0#32 + tS v k w, v.getD 4 0#32, v.getD 5 0#32, v.getD 6 0#32]
def vTo (K W s : List (BitVec 32)) : Nat → List (BitVec 32)
  | 0 => s
  | i + 1 => rnd (vTo K W s i) (K.getD i 0#32) (W.getD i 0#32)
theorem vTo_len {K W s : List (BitVec 32)} (hs : s.length = 8) (i : Nat) : (vTo K W s i).length = 8 := by
  cases i with
  | zero => exact hs
  | succ i => rfl
def addTo (s v : List (BitVec 32)) (i : Nat) : List (BitVec 32) := (List.range 8).map fun j => if j < i then s.getD j 0#32 + v.getD j 0#32 else s.getD j 0#32
theorem addTo_len (s v : List (BitVec 32)) (i : Nat) : (addTo s v i).length = 8 := by simp [addTo]
theorem addTo_0 {s : List (BitVec 32)} (v : List (BitVec 32)) (h : s.length = 8) : addTo s v 0 = s := by
  apply List.ext_getElem (by rw [addTo_len, h])
  intro j h1 h2
  simp [addTo, List.getD_eq_getElem?_getD, h2]
theorem addTo_at (s v : List (BitVec 32)) {i j : Nat} (h : i < 8) (hj : j ≤ i) : (addTo s v j).getD i 0#32 = s.getD i 0#32 := by
  have : ¬ i < j := by omega
  simp [addTo, List.getD_eq_getElem?_getD, h, this]
theorem addTo_set (s v : List (BitVec 32)) {i : Nat} (h : i < 8) : (addTo s v i).set i (s.getD i 0#32 + v.getD i 0#32) = addTo s v (i + 1) := by
  apply List.ext_getElem (by simp [addTo_len])
  intro j h1 h2
  rw [List.getElem_set]
  by_cases e : i = j
  · subst e
    simp [addTo]
  · have : (j < i) = (j < i + 1) := by simp; omega
    simp [e, addTo, this]
def mixB (s : List (BitVec 32)) (b : List (BitVec 8)) : List (BitVec 32) := addTo s (vTo KK (spreadS b) s 64) 8
theorem eight {α : Type} {v : List α} (h : v.length = 8) : ∃ a b c d e f g i, v = [a, b, c, d, e, f, g, i] := by
  match v, h with
  | [a, b, c, d, e, f, g, i], _ => exact ⟨a, b, c, d, e, f, g, i, rfl⟩
/-- The bytes with their length behind. -/
def padZ (n : Nat) : Nat := (119 - n % 64) % 64
def bits8 (n : Nat) : BitVec 64 := 8#64 * BitVec.ofInt 64 (n : Int)
def lenB (n k : Nat) : List (BitVec 8) := (List.range k).map fun i => (bits8 n >>> (8 * (7 - i))).setWidth 8
def padS (l : List (BitVec 8)) : List (BitVec 8) := l ++ [128#8] ++ List.replicate (padZ l.length) 0#8 ++ lenB l.length 8
theorem lenB_len (n k : Nat) : (lenB n k).length = k := by simp [lenB]
theorem lenB_succ (n k : Nat) : lenB n k ++ [(bits8 n >>> (8 * (7 - k))).setWidth 8] = lenB n (k + 1) := by simp [lenB, List.range_succ]
theorem padS_len (l : List (BitVec 8)) : (padS l).length = l.length + 9 + padZ l.length := by
  simp [padS, lenB_len]
  omega
theorem padS_mod (l : List (BitVec 8)) : (padS l).length % 64 = 0 := by
  rw [padS_len]
  unfold padZ
  omega
def nB (l : List (BitVec 8)) : Nat := (padS l).length / 64
def blk (l : List (BitVec 8)) (n : Nat) : List (BitVec 8) := (padS l).drop (64 * n)
def hTo (l : List (BitVec 8)) : Nat → List (BitVec 32)
  | 0 => H0
  | n + 1 => mixB (hTo l n) (blk l n)
theorem hTo_len (l : List (BitVec 8)) (n : Nat) : (hTo l n).length = 8 := by
  cases n with
  | zero => rfl
  | succ n => exact addTo_len _ _ _
def outB (h : List (BitVec 32)) (i : Nat) : BitVec 8 := (h.getD (i / 4) 0#32 >>> (24 - 8 * (i % 4))).setWidth 8
def outN (h : List (BitVec 32)) (k : Nat) : List (BitVec 8) := (List.range k).map (outB h) ++ List.replicate (32 - k) 0#8
theorem outN_len (h : List (BitVec 32)) {k : Nat} (hk : k ≤ 32) : (outN h k).length = 32 := by simp [outN]; omega
theorem outN_set (h : List (BitVec 32)) {k : Nat} (hk : k < 32) : (outN h k).set k (outB h k) = outN h (k + 1) := fill_set (outB h) 0#8 hk
def sumS (l : List (BitVec 8)) : List (BitVec 8) := (List.range 32).map (outB (hTo l (nB l)))
theorem sumS_len (l : List (BitVec 8)) : (sumS l).length = 32 := by simp [sumS]
theorem outN_fin (h : List (BitVec 32)) : outN h 32 = (List.range 32).map (outB h) := by simp [outN]
def rtk (n : Nat) (cube : Bool) (i : Nat) : List (BitVec 32) := ((primesN n).take i).map (rootS cube)
theorem rtk_len {n : Nat} (cube : Bool) {i : Nat} (hn : n ≤ 64) (h : i ≤ n) : (rtk n cube i).length = i := by
  rw [rtk, List.length_map, List.length_take, primesN_len hn]
  omega
theorem rtk_succ {n : Nat} (cube : Bool) {i : Nat} (hn : n ≤ 64) (h : i < n) : rtk n cube i ++ [rootS cube ((primesN n).getD i 0#64)] = rtk n cube (i + 1) := by
  have hl : i < (primesN n).length := by rw [primesN_len hn]; exact h
  rw [rtk, rtk, List.take_succ_eq_append_getElem hl, List.map_append, List.getD_eq_getElem?_getD, List.getElem?_eq_getElem hl]
  rfl
theorem rtk_fin {n : Nat} (cube : Bool) (hn : n ≤ 64) : rtk n cube n = rootsN n cube := by
  rw [rtk, List.take_of_length_le (by rw [primesN_len hn]; exact Nat.le_refl _)]
  rfl
theorem mix_row {v : List (BitVec 32)} (h : v.length = 8) (t u : BitVec 32) : ((splice v 1 (v.take 7)).set 4 ((splice v 1 (v.take 7)).getD 4 0#32 + t)).set 0 (t + u) = [t + u, v.getD 0 0#32, v.getD 1 0#32, v.getD 2 0#32, v.getD 3 0#32 + t, v.getD 4 0#32, v.getD 5 0#32, v.getD 6 0#32] := by
  obtain ⟨a, b, c, d, e, f, g, i, rfl⟩ := eight h
  rfl
theorem splice_len7 {v : List (BitVec 32)} (h : v.length = 8) : (splice v 1 (v.take 7)).length = 8 := by
  obtain ⟨a, b, c, d, e, f, g, i, rfl⟩ := eight h
  rfl
def padA (l : List (BitVec 8)) : Nat → List (BitVec 8)
  | 0 => l ++ [128#8]
  | z + 1 => padA l z ++ [0#8]
theorem padA_eq (l : List (BitVec 8)) (z : Nat) : padA l z = l ++ [128#8] ++ List.replicate z 0#8 := by
  induction z with
  | zero => simp [padA]
  | succ z ih => rw [padA, ih, List.replicate_succ', List.append_assoc _ _ [0#8]]
theorem padA_len (l : List (BitVec 8)) (z : Nat) : (padA l z).length = l.length + 1 + z := by
  rw [padA_eq]
  simp
  omega
def padC (l : List (BitVec 8)) : Nat → List (BitVec 8)
  | 0 => padA l (padZ l.length)
  | e + 1 => padC l e ++ [(bits8 l.length >>> (8 * (7 - e))).setWidth 8]
theorem padC_eq (l : List (BitVec 8)) (e : Nat) : padC l e = l ++ [128#8] ++ List.replicate (padZ l.length) 0#8 ++ lenB l.length e := by
  induction e with
  | zero => rw [padC, padA_eq]; simp [lenB]
  | succ e ih => rw [padC, ih, ← lenB_succ, List.append_assoc _ (lenB l.length e)]
theorem padC_8 (l : List (BitVec 8)) : padC l 8 = padS l := padC_eq l 8
theorem padC_len (l : List (BitVec 8)) (e : Nat) : (padC l e).length = l.length + 1 + padZ l.length + e := by
  rw [padC_eq]
  simp [lenB_len]
  omega
theorem padZ_lt (n : Nat) : padZ n < 64 := by unfold padZ; omega
def keyB (k : List (BitVec 8)) : List (BitVec 8) := k ++ List.replicate (64 - k.length) 0#8
theorem keyB_len {k : List (BitVec 8)} (h : k.length ≤ 64) : (keyB k).length = 64 := by simp [keyB]; omega
def xTo (B : List (BitVec 8)) (x : BitVec 8) (i : Nat) : List (BitVec 8) := (List.range 64).map fun j => if j < i then B.getD j 0#8 ^^^ x else B.getD j 0#8
theorem xTo_len (B : List (BitVec 8)) (x : BitVec 8) (i : Nat) : (xTo B x i).length = 64 := by simp [xTo]
theorem xTo_0 {B : List (BitVec 8)} (x : BitVec 8) (h : B.length = 64) : xTo B x 0 = B := by
  apply List.ext_getElem (by rw [xTo_len, h])
  intro j h1 h2
  simp [xTo, List.getD_eq_getElem?_getD, h2]
theorem xTo_at (B : List (BitVec 8)) (x : BitVec 8) {i : Nat} (h : i < 64) : (xTo B x i).getD i 0#8 = B.getD i 0#8 := by simp [xTo, List.getD_eq_getElem?_getD, h]
theorem xTo_set (B : List (BitVec 8)) (x : BitVec 8) {i : Nat} (h : i < 64) : (xTo B x i).set i (B.getD i 0#8 ^^^ x) = xTo B x (i + 1) := by
  apply List.ext_getElem (by simp [xTo_len])
  intro j h1 h2
  rw [List.getElem_set]
  by_cases e : i = j
  · subst e
    simp [xTo]
  · have : (j < i) = (j < i + 1) := by simp; omega
    simp [e, xTo, this]
def keyedS (k : List (BitVec 8)) (x : BitVec 8) : List (BitVec 8) := xTo (keyB k) x 64
theorem keyedS_len (k : List (BitVec 8)) (x : BitVec 8) : (keyedS k x).length = 64 := xTo_len _ _ _
def keyS (k : List (BitVec 8)) : List (BitVec 8) := if 64 < k.length then sumS k else k
theorem keyS_le (k : List (BitVec 8)) : (keyS k).length ≤ 64 := by
  unfold keyS
  split
  · rw [sumS_len]; decide
  · omega
def macS (k b : List (BitVec 8)) : List (BitVec 8) := sumS (keyedS (keyS k) 92#8 ++ sumS (keyedS (keyS k) 54#8 ++ b))
theorem macS_len (k b : List (BitVec 8)) : (macS k b).length = 32 := sumS_len _
theorem splice_key {k : List (BitVec 8)} (h : k.length ≤ 64) : splice (List.replicate 64 0#8) 0 k = keyB k := by
  unfold splice keyB
  rw [List.take_zero, List.nil_append, Nat.zero_add, List.drop_replicate]
theorem same_step {a b : List (BitVec 8)} {i : Nat} {u : BitVec 8} (ha : i < a.length) (hb : i < b.length) (h : u = 0#8 ↔ a.take i = b.take i) : (u ||| (a.getD i 0#8 ^^^ b.getD i 0#8) = 0#8 ↔ a.take (i + 1) = b.take (i + 1)) := by
  rw [List.take_succ_eq_append_getElem ha, List.take_succ_eq_append_getElem hb, List.getD_eq_getElem?_getD, List.getD_eq_getElem?_getD, List.getElem?_eq_getElem ha, List.getElem?_eq_getElem hb]
  have hl : (a.take i).length = (b.take i).length := by simp; omega
  rw [BitVec.or_eq_zero_iff, h]
  constructor
  · rintro ⟨h1, h2⟩
    rw [h1]
    have : a[i] = b[i] := by simpa using BitVec.xor_eq_zero_iff.1 h2
    rw [this]
  · intro h1
    obtain ⟨h2, h3⟩ := List.append_inj h1 hl
    refine ⟨h2, ?_⟩
    have : a[i] = b[i] := by simpa using h3
    simp [this]

theorem c_root (p : BitVec 64) (cube : Bool) :
    Con Try.prog 34 [u64V p, .bool cube] [] (fun v rs => v = u32V (rootS cube p) ∧ rs = []) := by
  refine Con.enter Try.func34 Try.ntmps34 (Nat.le_of_ble_eq_true rfl) rfl fun w => ?_
  refine At.seq ?_
  refine At.region ?_
  refine At.p (some 4) (P_assign rfl rfl) ?_
  refine At.nil ?_
  refine At.next ?_
  refine At.seq ?_
  refine At.region ?_
  refine At.p (some 5) (P_assign rfl rfl) ?_
  refine At.nil ?_
  refine At.next ?_
  refine At.seq ?_
  refine At.seq ?_
  refine At.region ?_
  refine At.p (some 6) (P_assign rfl rfl) ?_
  refine At.nil ?_
  refine At.next ?_
  refine At.block ?_
  refine At.loopx (I := fun m fr H => ∃ k, m = 36 - k ∧ fr = frOf [(0, u64V p), (1, .bool cube), (5, u64V (rTo p cube k)), (6, iV (35 - (k : Int)))] ∧ H = hOf [] ∧ k ≤ 36) ?_ ?_
  · intro Kc0 hKc0
    refine At.to [(0, _), (1, _), (5, _), (6, iV (35 - ((0 : Nat) : Int)))] [] (AllL.cons_ (rfl) (AllL.cons_ (rfl) (AllL.cons_ (rfl) (AllL.cons_ (rfl) trivial)))) trivial ?_
    exact hKc0 _ _ _ ⟨0, rfl, rfl, rfl, by omega⟩
  · rintro m fr H ⟨k, rfl, rfl, rfl, hk⟩ Kc0 hKc0
    refine At.seq ?_
    refine At.seq ?_
    refine At.region ?_
    refine At.p (some 13) (P_move rfl rfl) ?_
    refine At.p (some 14) (P_cmp rfl rfl rfl rfl rfl rfl) ?_
    refine At.nil ?_
    refine At.next ?_
    refine At.cond rfl (fun h14 => ?_) (fun h14 => ?_)
    · -- cond 14 t
      have hlt : k < 36 := by simp at h14; omega
      have hnk : (35 - (k : Int)).toNat = 35 - k := by omega
      refine At.skip ?_
      refine At.next ?_
      refine At.seq ?_
      refine At.block ?_
      refine At.seq ?_
      refine At.region ?_
      refine At.p (some 17) (P_move rfl rfl) ?_
      refine At.p (some 18) (P_move rfl rfl) ?_
      refine At.p (some 19) (P_shl_w UK.u64 (n := 64) (a := 1#64) rfl rfl rfl (by first | decide | omega)) ?_
      refine At.p (some 20) (P_or_w UK.u64 rfl rfl rfl) ?_
      refine At.p (some 7) (P_assign rfl rfl) ?_
      refine At.nil ?_
      refine At.next ?_
      refine At.seq ?_
      refine At.region ?_
      refine At.p (some 22) (P_move rfl rfl) ?_
      refine At.p (some 23) (P_move rfl rfl) ?_
      refine At.s (S_callV (some 24) [] [] (vs := [_, _]) rfl en39 rfl V0 (by simp) (c_mul _ _) (by rintro _ _ ⟨rfl, rfl⟩; rfl) ?_)
      rintro _ _ ⟨rfl, rfl⟩
      refine At.p (some 21) (P_move rfl rfl) ?_
      refine At.p (some 25) (P_extract rfl rfl rfl) ?_
      refine At.p (some 26) (P_extract rfl rfl rfl) ?_
      refine At.p (some 8) (P_assign rfl rfl) ?_
      refine At.p (some 9) (P_assign rfl rfl) ?_
      refine At.nil ?_
      refine At.next ?_
      refine At.seq ?_
      refine At.region ?_
      refine At.p (some 27) (P_move rfl rfl) ?_
      refine At.p (some 10) (P_assign rfl rfl) ?_
      refine At.nil ?_
      refine At.next ?_
      refine At.seq ?_
      refine At.seq ?_
      refine At.region ?_
      refine At.p (some 28) (P_move rfl rfl) ?_
      refine At.nil ?_
      refine At.next ?_
      refine At.cond rfl (fun h28 => ?_) (fun h28 => ?_)
      · -- cond 28 t
        refine At.seq ?_
        refine At.region ?_
        refine At.p (some 30) (P_move rfl rfl) ?_
        refine At.p (some 31) (P_move rfl rfl) ?_
        refine At.s (S_callV (some 32) [] [] (vs := [_, _]) rfl en39 rfl V0 (by simp) (c_mul _ _) (by rintro _ _ ⟨rfl, rfl⟩; rfl) ?_)
        rintro _ _ ⟨rfl, rfl⟩
        refine At.p (some 29) (P_move rfl rfl) ?_
        refine At.p (some 33) (P_extract rfl rfl rfl) ?_
        refine At.p (some 34) (P_extract rfl rfl rfl) ?_
        refine At.p (some 11) (P_assign rfl rfl) ?_
        refine At.p (some 12) (P_assign rfl rfl) ?_
        refine At.nil ?_
        refine At.next ?_
        refine At.seq ?_
        refine At.region ?_
        refine At.p (some 35) (P_move rfl rfl) ?_
        refine At.p (some 36) (P_move rfl rfl) ?_
        refine At.p (some 37) (P_mul_w UK.u64 rfl rfl rfl) ?_
        refine At.p (some 38) (P_move rfl rfl) ?_
        refine At.p (some 39) (P_add_w UK.u64 rfl rfl rfl) ?_
        refine At.p (some 40) (P_move rfl rfl) ?_
        refine At.p (some 8) (P_assign rfl rfl) ?_
        refine At.p (some 9) (P_assign rfl rfl) ?_
        refine At.nil ?_
        refine At.next ?_
        refine At.region ?_
        refine At.p (some 41) (P_move rfl rfl) ?_
        refine At.p (some 42) (P_shl_w UK.u64 (n := 64) rfl rfl rfl (by first | decide | omega)) ?_
        refine At.p (some 10) (P_assign rfl rfl) ?_
        refine At.nil ?_
        refine At.next ?_
        refine At.seq ?_
        refine At.region ?_
        refine At.p (some 43) (P_move rfl rfl) ?_
        refine At.p (some 44) (P_move rfl rfl) ?_
        refine At.p (some 45) (P_lss_w (n := 64) rfl rfl rfl) ?_
        refine At.p (some 46) (P_move rfl rfl) ?_
        refine At.gsplit (t := 46) (want := false) rfl (fun g1 => ?_) (fun g1 => ?_)
        ·
          refine At.gy (t := 46) rfl g1 rfl rfl ?_
          refine At.p (some 47) (P_move rfl rfl) ?_
          refine At.gy (t := 46) rfl g1 rfl rfl ?_
          refine At.p (some 48) (P_move rfl rfl) ?_
          refine At.gy (t := 46) rfl g1 rfl rfl ?_
          refine At.p (some 49) (P_eql_w (n := 64) rfl rfl rfl) ?_
          refine At.gy (t := 46) rfl g1 rfl rfl ?_
          refine At.p (some 50) (P_move rfl rfl) ?_
          refine At.gsplit (t := 50) (want := true) rfl (fun g2 => ?_) (fun g2 => ?_)
          ·
            refine At.gy (t := 50) rfl g2 rfl rfl ?_
            refine At.p (some 51) (P_move rfl rfl) ?_
            refine At.gy (t := 50) rfl g2 rfl rfl ?_
            refine At.p (some 52) (P_eql_w (n := 64) (b := 0#64) rfl rfl rfl) ?_
            refine At.gy (t := 46) rfl g1 rfl rfl ?_
            refine At.p (some 53) (P_pick_t rfl rfl g2 rfl) ?_
            refine At.p (some 54) (P_pick_f rfl rfl g1 rfl) ?_
            refine At.nil ?_
            refine At.next ?_
            refine At.cond rfl (fun h54 => ?_) (fun h54 => ?_)
            · -- cond 54 t
              have hok : rOk p (rTo p cube k ||| 1#64 <<< (35 - k)) cube = true := by simp_all [rOk, rHigh, rLow, rMost, hnk]
              have hnx : rTo p cube k ||| 1#64 <<< (35 - (k : Int)).toNat = rTo p cube (k + 1) := by rw [rTo, hok, hnk]; rfl
              refine At.region ?_
              refine At.p (some 55) (P_move rfl rfl) ?_
              refine At.p (some 5) (P_assign rfl rfl) ?_
              refine At.nil ?_
              refine At.inb_n ?_
              refine At.next ?_
              refine At.region ?_
              refine At.p (some 15) (P_move rfl rfl) ?_
              refine At.p (some 16) (P_sub_i rfl rfl rfl (by omega)) ?_
              refine At.p (some 6) (P_assign rfl rfl) ?_
              refine At.nil ?_
              refine At.next ?_
              refine At.to [(0, _), (1, _), (5, u64V (rTo p cube (k + 1))), (6, iV (35 - ((k + 1 : Nat) : Int)))] [] (AllL.cons_ (rfl) (AllL.cons_ (rfl) (AllL.cons_ (congrArg (fun z => some (u64V z)) hnx) (AllL.cons_ (congrArg (fun z => some (iV z)) (by omega)) trivial)))) trivial ?_
              exact hKc0 _ _ _ (by omega) ⟨k + 1, rfl, rfl, rfl, by omega⟩
            · -- cond 54 f
              have hok : rOk p (rTo p cube k ||| 1#64 <<< (35 - k)) cube = false := by simp_all [rOk, rHigh, rLow, rMost, hnk]
              have hnx : rTo p cube k = rTo p cube (k + 1) := by rw [rTo, hok]; rfl
              refine At.skip ?_
              refine At.inb_n ?_
              refine At.next ?_
              refine At.region ?_
              refine At.p (some 15) (P_move rfl rfl) ?_
              refine At.p (some 16) (P_sub_i rfl rfl rfl (by omega)) ?_
              refine At.p (some 6) (P_assign rfl rfl) ?_
              refine At.nil ?_
              refine At.next ?_
              refine At.to [(0, _), (1, _), (5, u64V (rTo p cube (k + 1))), (6, iV (35 - ((k + 1 : Nat) : Int)))] [] (AllL.cons_ (rfl) (AllL.cons_ (rfl) (AllL.cons_ (congrArg (fun z => some (u64V z)) hnx) (AllL.cons_ (congrArg (fun z => some (iV z)) (by omega)) trivial)))) trivial ?_
              exact hKc0 _ _ _ (by omega) ⟨k + 1, rfl, rfl, rfl, by omega⟩
          ·
            refine At.gn (some 51) (t := 50) rfl g2 rfl rfl ?_
            refine At.gn (some 52) (t := 50) rfl g2 rfl rfl ?_
            refine At.gy (t := 46) rfl g1 rfl rfl ?_
            refine At.p (some 53) (P_pick_f rfl rfl g2 rfl) ?_
            refine At.p (some 54) (P_pick_f rfl rfl g1 rfl) ?_
            refine At.nil ?_
            refine At.next ?_
            refine At.cond rfl (fun h => absurd (h.symm.trans rfl) (by decide)) (fun _ => ?_)
            have hok : rOk p (rTo p cube k ||| 1#64 <<< (35 - k)) cube = false := by simp_all [rOk, rHigh, rLow, rMost, hnk]
            have hnx : rTo p cube k = rTo p cube (k + 1) := by rw [rTo, hok]; rfl
            refine At.skip ?_
            refine At.inb_n ?_
            refine At.next ?_
            refine At.region ?_
            refine At.p (some 15) (P_move rfl rfl) ?_
            refine At.p (some 16) (P_sub_i rfl rfl rfl (by omega)) ?_
            refine At.p (some 6) (P_assign rfl rfl) ?_
            refine At.nil ?_
            refine At.next ?_
            refine At.to [(0, _), (1, _), (5, u64V (rTo p cube (k + 1))), (6, iV (35 - ((k + 1 : Nat) : Int)))] [] (AllL.cons_ (rfl) (AllL.cons_ (rfl) (AllL.cons_ (congrArg (fun z => some (u64V z)) hnx) (AllL.cons_ (congrArg (fun z => some (iV z)) (by omega)) trivial)))) trivial ?_
            exact hKc0 _ _ _ (by omega) ⟨k + 1, rfl, rfl, rfl, by omega⟩
        ·
          refine At.gn (some 47) (t := 46) rfl g1 rfl rfl ?_
          refine At.gn (some 48) (t := 46) rfl g1 rfl rfl ?_
          refine At.gn (some 49) (t := 46) rfl g1 rfl rfl ?_
          refine At.gn (some 50) (t := 46) rfl g1 rfl rfl ?_
          refine At.gu (some 51) (t := 50) rfl rfl rfl ?_
          refine At.gu (some 52) (t := 50) rfl rfl rfl ?_
          refine At.gn (some 53) (t := 46) rfl g1 rfl rfl ?_
          refine At.p (some 54) (P_pick_t rfl rfl g1 rfl) ?_
          refine At.nil ?_
          refine At.next ?_
          refine At.cond rfl (fun _ => ?_) (fun h => absurd (h.symm.trans rfl) (by decide))
          have hok : rOk p (rTo p cube k ||| 1#64 <<< (35 - k)) cube = true := by simp_all [rOk, rHigh, rLow, rMost, hnk]
          have hnx : rTo p cube k ||| 1#64 <<< (35 - (k : Int)).toNat = rTo p cube (k + 1) := by rw [rTo, hok, hnk]; rfl
          refine At.region ?_
          refine At.p (some 55) (P_move rfl rfl) ?_
          refine At.p (some 5) (P_assign rfl rfl) ?_
          refine At.nil ?_
          refine At.inb_n ?_
          refine At.next ?_
          refine At.region ?_
          refine At.p (some 15) (P_move rfl rfl) ?_
          refine At.p (some 16) (P_sub_i rfl rfl rfl (by omega)) ?_
          refine At.p (some 6) (P_assign rfl rfl) ?_
          refine At.nil ?_
          refine At.next ?_
          refine At.to [(0, _), (1, _), (5, u64V (rTo p cube (k + 1))), (6, iV (35 - ((k + 1 : Nat) : Int)))] [] (AllL.cons_ (rfl) (AllL.cons_ (rfl) (AllL.cons_ (congrArg (fun z => some (u64V z)) hnx) (AllL.cons_ (congrArg (fun z => some (iV z)) (by omega)) trivial)))) trivial ?_
          exact hKc0 _ _ _ (by omega) ⟨k + 1, rfl, rfl, rfl, by omega⟩
      · -- cond 28 f
        refine At.skip ?_
        refine At.next ?_
        refine At.seq ?_
        refine At.region ?_
        refine At.p (some 43) (P_move rfl rfl) ?_
        refine At.p (some 44) (P_move rfl rfl) ?_
        refine At.p (some 45) (P_lss_w (n := 64) rfl rfl rfl) ?_
        refine At.p (some 46) (P_move rfl rfl) ?_
        refine At.gsplit (t := 46) (want := false) rfl (fun g3 => ?_) (fun g3 => ?_)
        ·
          refine At.gy (t := 46) rfl g3 rfl rfl ?_
          refine At.p (some 47) (P_move rfl rfl) ?_
          refine At.gy (t := 46) rfl g3 rfl rfl ?_
          refine At.p (some 48) (P_move rfl rfl) ?_
          refine At.gy (t := 46) rfl g3 rfl rfl ?_
          refine At.p (some 49) (P_eql_w (n := 64) rfl rfl rfl) ?_
          refine At.gy (t := 46) rfl g3 rfl rfl ?_
          refine At.p (some 50) (P_move rfl rfl) ?_
          refine At.gsplit (t := 50) (want := true) rfl (fun g4 => ?_) (fun g4 => ?_)
          ·
            refine At.gy (t := 50) rfl g4 rfl rfl ?_
            refine At.p (some 51) (P_move rfl rfl) ?_
            refine At.gy (t := 50) rfl g4 rfl rfl ?_
            refine At.p (some 52) (P_eql_w (n := 64) (b := 0#64) rfl rfl rfl) ?_
            refine At.gy (t := 46) rfl g3 rfl rfl ?_
            refine At.p (some 53) (P_pick_t rfl rfl g4 rfl) ?_
            refine At.p (some 54) (P_pick_f rfl rfl g3 rfl) ?_
            refine At.nil ?_
            refine At.next ?_
            refine At.cond rfl (fun h54 => ?_) (fun h54 => ?_)
            · -- cond 54 t
              have hok : rOk p (rTo p cube k ||| 1#64 <<< (35 - k)) cube = true := by simp_all [rOk, rHigh, rLow, rMost, hnk]
              have hnx : rTo p cube k ||| 1#64 <<< (35 - (k : Int)).toNat = rTo p cube (k + 1) := by rw [rTo, hok, hnk]; rfl
              refine At.region ?_
              refine At.p (some 55) (P_move rfl rfl) ?_
              refine At.p (some 5) (P_assign rfl rfl) ?_
              refine At.nil ?_
              refine At.inb_n ?_
              refine At.next ?_
              refine At.region ?_
              refine At.p (some 15) (P_move rfl rfl) ?_
              refine At.p (some 16) (P_sub_i rfl rfl rfl (by omega)) ?_
              refine At.p (some 6) (P_assign rfl rfl) ?_
              refine At.nil ?_
              refine At.next ?_
              refine At.to [(0, _), (1, _), (5, u64V (rTo p cube (k + 1))), (6, iV (35 - ((k + 1 : Nat) : Int)))] [] (AllL.cons_ (rfl) (AllL.cons_ (rfl) (AllL.cons_ (congrArg (fun z => some (u64V z)) hnx) (AllL.cons_ (congrArg (fun z => some (iV z)) (by omega)) trivial)))) trivial ?_
              exact hKc0 _ _ _ (by omega) ⟨k + 1, rfl, rfl, rfl, by omega⟩
            · -- cond 54 f
              have hok : rOk p (rTo p cube k ||| 1#64 <<< (35 - k)) cube = false := by simp_all [rOk, rHigh, rLow, rMost, hnk]
              have hnx : rTo p cube k = rTo p cube (k + 1) := by rw [rTo, hok]; rfl
              refine At.skip ?_
              refine At.inb_n ?_
              refine At.next ?_
              refine At.region ?_
              refine At.p (some 15) (P_move rfl rfl) ?_
              refine At.p (some 16) (P_sub_i rfl rfl rfl (by omega)) ?_
              refine At.p (some 6) (P_assign rfl rfl) ?_
              refine At.nil ?_
              refine At.next ?_
              refine At.to [(0, _), (1, _), (5, u64V (rTo p cube (k + 1))), (6, iV (35 - ((k + 1 : Nat) : Int)))] [] (AllL.cons_ (rfl) (AllL.cons_ (rfl) (AllL.cons_ (congrArg (fun z => some (u64V z)) hnx) (AllL.cons_ (congrArg (fun z => some (iV z)) (by omega)) trivial)))) trivial ?_
              exact hKc0 _ _ _ (by omega) ⟨k + 1, rfl, rfl, rfl, by omega⟩
          ·
            refine At.gn (some 51) (t := 50) rfl g4 rfl rfl ?_
            refine At.gn (some 52) (t := 50) rfl g4 rfl rfl ?_
            refine At.gy (t := 46) rfl g3 rfl rfl ?_
            refine At.p (some 53) (P_pick_f rfl rfl g4 rfl) ?_
            refine At.p (some 54) (P_pick_f rfl rfl g3 rfl) ?_
            refine At.nil ?_
            refine At.next ?_
            refine At.cond rfl (fun h => absurd (h.symm.trans rfl) (by decide)) (fun _ => ?_)
            have hok : rOk p (rTo p cube k ||| 1#64 <<< (35 - k)) cube = false := by simp_all [rOk, rHigh, rLow, rMost, hnk]
            have hnx : rTo p cube k = rTo p cube (k + 1) := by rw [rTo, hok]; rfl
            refine At.skip ?_
            refine At.inb_n ?_
            refine At.next ?_
            refine At.region ?_
            refine At.p (some 15) (P_move rfl rfl) ?_
            refine At.p (some 16) (P_sub_i rfl rfl rfl (by omega)) ?_
            refine At.p (some 6) (P_assign rfl rfl) ?_
            refine At.nil ?_
            refine At.next ?_
            refine At.to [(0, _), (1, _), (5, u64V (rTo p cube (k + 1))), (6, iV (35 - ((k + 1 : Nat) : Int)))] [] (AllL.cons_ (rfl) (AllL.cons_ (rfl) (AllL.cons_ (congrArg (fun z => some (u64V z)) hnx) (AllL.cons_ (congrArg (fun z => some (iV z)) (by omega)) trivial)))) trivial ?_
            exact hKc0 _ _ _ (by omega) ⟨k + 1, rfl, rfl, rfl, by omega⟩
        ·
          refine At.gn (some 47) (t := 46) rfl g3 rfl rfl ?_
          refine At.gn (some 48) (t := 46) rfl g3 rfl rfl ?_
          refine At.gn (some 49) (t := 46) rfl g3 rfl rfl ?_
          refine At.gn (some 50) (t := 46) rfl g3 rfl rfl ?_
          refine At.gu (some 51) (t := 50) rfl rfl rfl ?_
          refine At.gu (some 52) (t := 50) rfl rfl rfl ?_
          refine At.gn (some 53) (t := 46) rfl g3 rfl rfl ?_
          refine At.p (some 54) (P_pick_t rfl rfl g3 rfl) ?_
          refine At.nil ?_
          refine At.next ?_
          refine At.cond rfl (fun _ => ?_) (fun h => absurd (h.symm.trans rfl) (by decide))
          have hok : rOk p (rTo p cube k ||| 1#64 <<< (35 - k)) cube = true := by simp_all [rOk, rHigh, rLow, rMost, hnk]
          have hnx : rTo p cube k ||| 1#64 <<< (35 - (k : Int)).toNat = rTo p cube (k + 1) := by rw [rTo, hok, hnk]; rfl
          refine At.region ?_
          refine At.p (some 55) (P_move rfl rfl) ?_
          refine At.p (some 5) (P_assign rfl rfl) ?_
          refine At.nil ?_
          refine At.inb_n ?_
          refine At.next ?_
          refine At.region ?_
          refine At.p (some 15) (P_move rfl rfl) ?_
          refine At.p (some 16) (P_sub_i rfl rfl rfl (by omega)) ?_
          refine At.p (some 6) (P_assign rfl rfl) ?_
          refine At.nil ?_
          refine At.next ?_
          refine At.to [(0, _), (1, _), (5, u64V (rTo p cube (k + 1))), (6, iV (35 - ((k + 1 : Nat) : Int)))] [] (AllL.cons_ (rfl) (AllL.cons_ (rfl) (AllL.cons_ (congrArg (fun z => some (u64V z)) hnx) (AllL.cons_ (congrArg (fun z => some (iV z)) (by omega)) trivial)))) trivial ?_
          exact hKc0 _ _ _ (by omega) ⟨k + 1, rfl, rfl, rfl, by omega⟩
    · -- cond 14 f
      obtain rfl : k = 36 := by simp at h14; omega
      refine At.exit ?_
      refine At.thn_e ?_
      refine At.thn_e ?_
      refine At.inb_hit ?_
      refine At.next ?_
      refine At.seq ?_
      refine At.region ?_
      refine At.p (some 56) (P_move rfl rfl) ?_
      refine At.p (some 57) (P_conv_ww UK.u32 (m := 64) rfl Try.underlying23 Try.underlying44 rfl) ?_
      refine At.p (some 4) (P_assign rfl rfl) ?_
      refine At.nil ?_
      refine At.next ?_
      refine At.ret ?_
      refine At.give (.inl rfl) [] (rows' := []) (vs := [_]) rfl ⟨rfl, trivial⟩ rfl (by simp) (by simp) ⟨rfl, rfl⟩
end Go.Proofs.Ytdkeadfhejkidaa
