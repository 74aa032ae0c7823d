import Derived.Test.YtkdkpjnlknofeaaA
namespace Go.Proofs.Ytkdkpjnlknofeaa
set_option maxRecDepth 20000
set_option linter.unusedVariables false
set_option linter.unusedSimpArgs false
open Go.SE Go.RowKit
def Z (x : BitVec 32) : BitVec 64 := x.setWidth 64
def leftF (x n : BitVec 64) : BitVec 64 := (x <<< n.toNat) % 4294967296#64 + x >>> (32#64 - n).toNat
theorem Z_nat (x : BitVec 32) : (Z x).toNat = x.toNat := by
  have := x.isLt
  simp [Z]; omega
theorem Z_add (x y : BitVec 32) : (Z x + Z y) % 4294967296#64 = Z (x + y) := by
  apply BitVec.eq_of_toNat_eq
  have := x.isLt
  have := y.isLt
  simp [Z]; omega
theorem Z_xor (x y : BitVec 32) : Z x ^^^ Z y = Z (x ^^^ y) := by
  apply BitVec.eq_of_toNat_eq
  rw [BitVec.toNat_xor, Z_nat, Z_nat, Z_nat, BitVec.toNat_xor]
theorem rot_nat (x : BitVec 32) {k : Nat} (h0 : 0 < k) (hk : k < 32) : (rotS x k).toNat = (x.toNat * 2 ^ k) % 2 ^ 32 + x.toNat / 2 ^ (32 - k) := by
  unfold rotS
  rw [BitVec.toNat_or, BitVec.toNat_shiftLeft, BitVec.toNat_ushiftRight, Nat.shiftRight_eq_div_pow, Nat.shiftLeft_eq]
  have hx := x.isLt
  have hb : x.toNat / 2 ^ (32 - k) < 2 ^ k := by
    rw [Nat.div_lt_iff_lt_mul (Nat.two_pow_pos _), ← Nat.pow_add, show k + (32 - k) = 32 by omega]
    exact hx
  have e : x.toNat * 2 ^ k % 2 ^ 32 = (x.toNat % 2 ^ (32 - k)) * 2 ^ k := by
    rw [show (2 : Nat) ^ 32 = 2 ^ (32 - k) * 2 ^ k by rw [← Nat.pow_add]; congr 1; omega, Nat.mul_mod_mul_right]
  rw [e, Nat.mul_comm _ (2 ^ k), ← Nat.two_pow_add_eq_or_of_lt hb]
theorem Z_left (x : BitVec 32) {k : Nat} (h0 : 0 < k) (hk : k < 32) : leftF (Z x) (BitVec.ofNat 64 k) = Z (rotS x k) := by
  apply BitVec.eq_of_toNat_eq
  have hx := x.isLt
  have e1 : (BitVec.ofNat 64 k).toNat = k := by simp; omega
  have e2 : (32#64 - BitVec.ofNat 64 k).toNat = 32 - k := by simp [BitVec.toNat_sub]; omega
  have hp : x.toNat * 2 ^ k < 2 ^ 64 := by
    calc x.toNat * 2 ^ k < 2 ^ 32 * 2 ^ k := Nat.mul_lt_mul_of_pos_right hx (Nat.two_pow_pos _)
      _ = 2 ^ (32 + k) := by rw [Nat.pow_add]
      _ ≤ 2 ^ 64 := Nat.pow_le_pow_right (by decide) (by omega)
  have hq : x.toNat / 2 ^ (32 - k) < 2 ^ 32 := Nat.lt_of_le_of_lt (Nat.div_le_self _ _) hx
  rw [Z_nat, rot_nat x h0 hk, leftF, e1, e2, BitVec.toNat_add, BitVec.toNat_umod, BitVec.toNat_shiftLeft, BitVec.toNat_ushiftRight, Z_nat, Nat.shiftLeft_eq, Nat.shiftRight_eq_div_pow, Nat.mod_eq_of_lt hp]
  have : x.toNat * 2 ^ k % 2 ^ 32 < 2 ^ 32 := Nat.mod_lt _ (by decide)
  have e3 : (4294967296#64).toNat = 2 ^ 32 := rfl
  rw [e3]
  generalize x.toNat * 2 ^ k % 2 ^ 32 = A at *
  generalize x.toNat / 2 ^ (32 - k) = B at *
  omega
theorem Z_out (x y : BitVec 32) (n : Nat) : (((Z x + Z y) % 4294967296#64) >>> n).setWidth 8 = ((x + y) >>> n).setWidth 8 := by
  rw [Z_add]
  apply BitVec.eq_of_toNat_eq
  simp [Z_nat]






theorem leW_step {a : Nat} {n : Nat} (b : BitVec 8) (h : a < 2 ^ (8 * n)) (hn : n < 4) (w : BitVec 32) (hw : w.toNat = a) : (w ||| (b.setWidth 32) <<< (8 * n)).toNat = a + b.toNat * 2 ^ (8 * n) := by
  have hb := b.isLt
  have hb2 : b.toNat % 2 ^ 32 = b.toNat := Nat.mod_eq_of_lt (by omega)
  have hlt : b.toNat * 2 ^ (8 * n) < 2 ^ 32 := by
    have h1 : b.toNat * 2 ^ (8 * n) < 2 ^ 8 * 2 ^ (8 * n) := Nat.mul_lt_mul_of_pos_right hb (Nat.two_pow_pos _)
    rw [← Nat.pow_add] at h1
    exact Nat.lt_of_lt_of_le h1 (Nat.pow_le_pow_right (by decide) (by omega))
  rw [BitVec.toNat_or, BitVec.toNat_shiftLeft, BitVec.toNat_setWidth, Nat.shiftLeft_eq, hw, hb2, Nat.mod_eq_of_lt hlt, Nat.or_comm, Nat.mul_comm, ← Nat.two_pow_add_eq_or_of_lt h, Nat.add_comm]
theorem leW4 (l : List (BitVec 8)) (o : Nat) : (leW l o 4).toNat = (l.getD o 0#8).toNat + (l.getD (o + 1) 0#8).toNat * 256 + (l.getD (o + 2) 0#8).toNat * 65536 + (l.getD (o + 3) 0#8).toNat * 16777216 := by
  have h0 := (l.getD o 0#8).isLt
  have h1 := (l.getD (o + 1) 0#8).isLt
  have h2 := (l.getD (o + 2) 0#8).isLt
  have e0 := leW_step (n := 0) (a := 0) (l.getD (o + 0) 0#8) (by decide) (by decide) 0#32 rfl
  have e1 := leW_step (n := 1) (l.getD (o + 1) 0#8) (by simp at h0 ⊢; omega) (by decide) _ e0
  have e2 := leW_step (n := 2) (l.getD (o + 2) 0#8) (by simp at h0 h1 ⊢; omega) (by decide) _ e1
  have e3 := leW_step (n := 3) (l.getD (o + 3) 0#8) (by simp at h0 h1 h2 ⊢; omega) (by decide) _ e2
  show (leW l o 4).toNat = _
  unfold leW leW leW leW leW
  rw [e3]
  simp
theorem leW_congr {l l' : List (BitVec 8)} {o o' : Nat} : ∀ (n : Nat), (∀ j < n, l.getD (o + j) 0#8 = l'.getD (o' + j) 0#8) → leW l o n = leW l' o' n
  | 0, _ => rfl
  | n + 1, h => by
    unfold leW
    rw [leW_congr n fun j hj => h j (by omega), h n (by omega)]
theorem wordsOf_app {x y : List (BitVec 8)} {m : Nat} (hx : x.length = m * 4) : wordsOf (x ++ y) = wordsOf x ++ wordsOf y := by
  unfold wordsOf wordsTo
  apply List.ext_getElem
  · simp [hx]; omega
  · intro i h1 h2
    simp only [List.length_map, List.length_range] at h1
    rw [List.getElem_map, List.getElem_range]
    rw [List.getElem_append]
    split
    · rename_i h3
      simp only [List.length_map, List.length_range] at h3
      rw [List.getElem_map, List.getElem_range]
      unfold wordAt
      have e : min 4 ((x ++ y).length - i * 4) = min 4 (x.length - i * 4) := by simp; omega
      rw [e]
      refine leW_congr _ fun j hj => ?_
      rw [List.getD_eq_getElem?_getD, List.getD_eq_getElem?_getD, List.getElem?_append_left (by omega)]
    · rename_i h3
      simp only [List.length_map, List.length_range] at h3
      rw [List.getElem_map, List.getElem_range]
      simp only [List.length_map, List.length_range]
      unfold wordAt
      have e : min 4 ((x ++ y).length - i * 4) = min 4 (y.length - (i - (x.length + 4 - 1) / 4) * 4) := by simp; omega
      rw [e]
      refine leW_congr _ fun j hj => ?_
      rw [List.getD_eq_getElem?_getD, List.getD_eq_getElem?_getD, List.getElem?_append_right (by omega)]
      congr 2
      omega
def cntB (c : BitVec 32) : List (BitVec 8) := [c.setWidth 8, (c >>> 8).setWidth 8, (c >>> 16).setWidth 8, (c >>> 24).setWidth 8]
theorem wordsOf_cnt (c : BitVec 32) : wordsOf (cntB c) = [c] := by
  unfold wordsOf wordsTo
  rw [show (cntB c).length = 4 from rfl]
  show [wordAt (cntB c) 0] = [c]
  congr 1
  show leW (cntB c) 0 4 = c
  apply BitVec.eq_of_toNat_eq
  rw [leW4]
  have := c.isLt
  simp [cntB]
  simp only [Nat.shiftRight_eq_div_pow]
  omega
def hC (B : List (BitVec 8)) (w : Nat) : Nat → BitVec 64
  | 0 => 0#64
  | r + 1 => hC B w r * 256#64 + (B.getD (4 * w + (3 - r)) 0#8).setWidth 64
theorem hC4 (B : List (BitVec 8)) (w : Nat) : hC B w 4 = Z (leW B (w * 4) 4) := by
  apply BitVec.eq_of_toNat_eq
  rw [Z_nat, leW4]
  have h0 := (B.getD (w * 4) 0#8).isLt
  have h1 := (B.getD (w * 4 + 1) 0#8).isLt
  have h2 := (B.getD (w * 4 + 2) 0#8).isLt
  have h3 := (B.getD (w * 4 + 3) 0#8).isLt
  unfold hC hC hC hC hC
  rw [Nat.mul_comm 4 w]
  simp only [BitVec.toNat_add, BitVec.toNat_mul, BitVec.toNat_setWidth, Nat.sub_zero, Nat.sub_self, Nat.add_zero, show 3 - 1 = 2 from rfl, show 3 - 2 = 1 from rfl, BitVec.toNat_ofNat]
  omega
def hTo (B : List (BitVec 8)) (k w : Nat) : BitVec 64 := hC B w (4 - min 4 (k - 4 * w))
def sTo (B : List (BitVec 8)) (k : Nat) : List (BitVec 64) := (List.range 16).map (hTo B k)
theorem sTo_len (B : List (BitVec 8)) (k : Nat) : (sTo B k).length = 16 := by simp [sTo]
theorem sTo_64 (B : List (BitVec 8)) : sTo B 64 = List.replicate 16 0#64 := by
  apply List.ext_getElem (by simp [sTo])
  intro i h1 h2
  simp only [sTo, List.getElem_map, List.getElem_range, List.getElem_replicate, hTo]
  have : i < 16 := by simpa [sTo] using h1
  rw [show 4 - min 4 (64 - 4 * i) = 0 by omega]
  rfl
theorem sTo_step (B : List (BitVec 8)) {k : Nat} (h0 : 0 < k) (hk : k ≤ 64) :
    (sTo B k).set ((k - 1) / 4) ((sTo B k).getD ((k - 1) / 4) 0#64 * 256#64 + (B.getD (k - 1) 0#8).setWidth 64) = sTo B (k - 1) := by
  have hlt : (k - 1) / 4 < 16 := by omega
  have hg : (sTo B k).getD ((k - 1) / 4) 0#64 = hTo B k ((k - 1) / 4) := by simp [sTo, hlt]
  rw [hg]
  apply List.ext_getElem (by simp [sTo])
  intro i h1 h2
  have hi : i < 16 := by simpa [sTo] using h2
  rw [List.getElem_set]
  split
  · rename_i he
    subst he
    simp only [sTo, List.getElem_map, List.getElem_range, hTo]
    have e : 4 - min 4 (k - 1 - 4 * ((k - 1) / 4)) = (4 - min 4 (k - 4 * ((k - 1) / 4))) + 1 := by omega
    rw [e]
    show _ = hC B _ _ * 256#64 + _
    congr 3
    omega
  · rename_i hne
    simp only [sTo, List.getElem_map, List.getElem_range, hTo]
    congr 1
    omega
theorem sTo_0 {B : List (BitVec 8)} (hB : B.length = 64) : sTo B 0 = (wordsOf B).map Z := by
  unfold wordsOf wordsTo sTo
  rw [hB, List.map_map]
  apply List.map_congr_left
  intro i hi
  have hi : i < 16 := by simpa using hi
  show hTo B 0 i = Z (wordAt B i)
  unfold hTo wordAt
  rw [hB, show min 4 (64 - i * 4) = 4 by omega, show 4 - min 4 (0 - 4 * i) = 4 by omega]
  exact hC4 B i
def byk (i : Nat) : Nat := [16, 12, 8, 7].getD i 0
def qStep (s : List (BitVec 32)) (x y z k : Nat) : List (BitVec 32) :=
  let s := s.set x (s.getD x 0#32 + s.getD y 0#32)
  s.set z (rotS (s.getD z 0#32 ^^^ s.getD x 0#32) k)
def qN (s : List (BitVec 32)) (a b c d : Nat) : Nat → List (BitVec 32)
  | 0 => s
  | n + 1 => if n % 2 = 1 then qStep (qN s a b c d n) c d b (byk n) else qStep (qN s a b c d n) a b d (byk n)
theorem qN4 (s : List (BitVec 32)) (a b c d : Nat) : qN s a b c d 4 = qS s a b c d := rfl
theorem qN_len (s : List (BitVec 32)) (a b c d n : Nat) : (qN s a b c d n).length = s.length := by
  induction n with
  | zero => rfl
  | succ n ih => unfold qN; split <;> simp [qStep, ih]
theorem Z_getD (s : List (BitVec 32)) (i : Nat) : (s.map Z).getD i 0#64 = Z (s.getD i 0#32) := by
  rw [List.getD_eq_getElem?_getD, List.getD_eq_getElem?_getD, List.getElem?_map]
  cases s[i]? <;> rfl
theorem Z_set (s : List (BitVec 32)) (i : Nat) (v : BitVec 32) : (s.map Z).set i (Z v) = (s.set i v).map Z := List.map_set.symm
theorem Z_step (s : List (BitVec 32)) (x y z : Nat) {i : Nat} (hi : i < 4) :
    ((s.map Z).set x (((s.map Z).getD x 0#64 + (s.map Z).getD y 0#64) % 4294967296#64)).set z (leftF (((s.map Z).set x (((s.map Z).getD x 0#64 + (s.map Z).getD y 0#64) % 4294967296#64)).getD z 0#64 ^^^ ((s.map Z).set x (((s.map Z).getD x 0#64 + (s.map Z).getD y 0#64) % 4294967296#64)).getD x 0#64) ([16#64, 12#64, 8#64, 7#64].getD i 0#64)) = (qStep s x y z (byk i)).map Z := by
  have hb : [16#64, 12#64, 8#64, 7#64].getD i 0#64 = BitVec.ofNat 64 (byk i) ∧ 0 < byk i ∧ byk i < 32 := by
    match i, hi with
    | 0, _ => exact ⟨rfl, by decide, by decide⟩
    | 1, _ => exact ⟨rfl, by decide, by decide⟩
    | 2, _ => exact ⟨rfl, by decide, by decide⟩
    | 3, _ => exact ⟨rfl, by decide, by decide⟩
  rw [Z_getD, Z_getD, Z_add, Z_set, Z_getD, Z_getD, Z_xor, hb.1, Z_left _ hb.2.1 hb.2.2, Z_set]
  rfl
def rN : Nat → List (BitVec 32) → List (BitVec 32)
  | 0, s => s
  | n + 1, s => rndS (n % 2) 4 (rN n s)
theorem rN_len (n : Nat) (s : List (BitVec 32)) : (rN n s).length = s.length := by
  induction n with
  | zero => rfl
  | succ n ih => simp [rN, rndS_len, ih]
theorem rN_mix (n : Nat) (s : List (BitVec 32)) : rN (2 * n) s = mixN n s := by
  induction n with
  | zero => rfl
  | succ n ih =>
    show rndS ((2 * n + 1) % 2) 4 (rndS ((2 * n) % 2) 4 (rN (2 * n) s)) = mixS (mixN n s)
    rw [show (2 * n + 1) % 2 = 1 by omega, show (2 * n) % 2 = 0 by omega, ih]
    rfl
def blockB (key : List (BitVec 8)) (count : BitVec 32) (nonce : List (BitVec 8)) : List (BitVec 8) := expandB ++ key ++ cntB count ++ nonce
theorem blockB_len {key nonce : List (BitVec 8)} (c : BitVec 32) (hk : key.length = 32) (hn : nonce.length = 12) : (blockB key c nonce).length = 64 := by simp [blockB, expandB, cntB, hk, hn]
theorem blockB_words {key nonce : List (BitVec 8)} (c : BitVec 32) (hk : key.length = 32) : wordsOf (blockB key c nonce) = initS key c nonce := by
  unfold blockB initS
  rw [wordsOf_app (m := 13) (by simp [expandB, cntB, hk]), wordsOf_app (m := 12) (by simp [expandB, hk]), wordsOf_app (m := 4) rfl, wordsOf_cnt]
theorem out_ref (s : List (BitVec 32)) (i : Nat) : ((((s.map Z).getD (i / 4) 0#64 + ((rN 20 s).map Z).getD (i / 4) 0#64) % 4294967296#64) >>> (8 * ((i : Int) % 4)).toNat).setWidth 8 = outAt (mixN 10 s) s i := by
  rw [Z_getD, Z_getD, Z_out, show (8 * ((i : Int) % 4)).toNat = 8 * (i % 4) by omega, show rN 20 s = mixN 10 s from rN_mix 10 s, BitVec.add_comm]
  rfl

theorem r_cut (x : BitVec 64) :
    Con Try.prog 31 [u64V x] [] (fun v rs => v = u64V (x % 4294967296#64) ∧ rs = []) := by
  refine Con.enter Try.func31 Try.ntmps31 (Nat.le_of_ble_eq_true rfl) rfl fun w => ?_
  refine At.seq ?_
  refine At.region ?_
  refine At.p (some 2) (P_assign rfl rfl) ?_
  refine At.nil ?_
  refine At.next ?_
  refine At.seq ?_
  refine At.region ?_
  refine At.p (some 3) (P_move rfl rfl) ?_
  refine At.p (some 4) (P_rem_w UK.u64 (b := 4294967296#64) rfl rfl rfl (by decide)) ?_
  refine At.p (some 2) (P_assign rfl rfl) ?_
  refine At.nil ?_
  refine At.next ?_
  refine At.ret ?_
  refine At.give (.inl rfl) [] (rows' := []) (vs := [_]) rfl ⟨rfl, trivial⟩ rfl (by simp) (by simp) ⟨rfl, rfl⟩

theorem r_left (x n : BitVec 64) :
    Con Try.prog 44 [u64V x, u64V n] [] (fun v rs => v = u64V (leftF x n) ∧ rs = []) := by
  refine Con.enter Try.func44 Try.ntmps44 (Nat.le_of_ble_eq_true rfl) rfl fun w => ?_
  refine At.seq ?_
  refine At.region ?_
  refine At.p (some 4) (P_assign rfl rfl) ?_
  refine At.nil ?_
  refine At.next ?_
  refine At.seq ?_
  refine At.region ?_
  refine At.p (some 5) (P_move rfl rfl) ?_
  refine At.p (some 6) (P_move rfl rfl) ?_
  refine At.p (some 7) (P_shl_w UK.u64 (n := 64) rfl rfl rfl (by first | decide | omega)) ?_
  refine At.s (S_callV (some 8) [] [] (vs := [_]) rfl en31 rfl V0 (by simp) (r_cut _) (by rintro _ _ ⟨rfl, rfl⟩; rfl) ?_)
  rintro _ _ ⟨rfl, rfl⟩
  refine At.p (some 9) (P_move rfl rfl) ?_
  refine At.p (some 10) (P_move rfl rfl) ?_
  refine At.p (some 11) (P_sub_w UK.u64 (a := 32#64) rfl rfl rfl) ?_
  refine At.p (some 12) (P_shr_w UK.u64 (n := 64) rfl rfl rfl (by first | decide | omega)) ?_
  refine At.p (some 13) (P_add_w UK.u64 rfl rfl rfl) ?_
  refine At.p (some 4) (P_assign rfl rfl) ?_
  refine At.nil ?_
  refine At.next ?_
  refine At.ret ?_
  refine At.give (.inl rfl) [] (rows' := []) (vs := [_]) rfl ⟨rfl, trivial⟩ rfl (by simp) (by simp) ⟨?_, rfl⟩
  simp only [leftF, retV, Int.toNat_natCast]

theorem r_quarter (s : List (BitVec 32)) (hs : s.length = 16) (a b c d : Nat) (ha : a < 16) (hb : b < 16) (hc : c < 16) (hd : d < 16) :
    Con Try.prog 30 [.agg ((s.map Z).map u64V).toArray, .agg #[iV (a : Int), iV (b : Int), iV (c : Int), iV (d : Int)]] [] (fun v rs => v = .agg (((qS s a b c d).map Z).map u64V).toArray ∧ rs = []) := by
  refine Con.enter Try.func30 Try.ntmps30 (Nat.le_of_ble_eq_true rfl) rfl fun w => ?_
  refine At.seq ?_
  refine At.region ?_
  refine At.s (S_box (some 2) 2 (zs := (s.map Z).map u64V) rfl rfl rfl (fun b2 => ?_))
  refine At.s (S_box (some 3) 3 (zs := [iV (a : Int), iV (b : Int), iV (c : Int), iV (d : Int)]) rfl rfl rfl (fun b3 => ?_))
  refine At.s (S_alloc (some 4) 4 (zs := (List.replicate 16 0#64).map u64V) rfl ze60 rfl (fun b4 => ?_))
  refine At.nil ?_
  refine At.next ?_
  refine At.seq ?_
  refine At.region ?_
  refine At.p (some 10) (P_build_arr (cs := ([16#64, 12#64, 8#64, 7#64].map u64V).toArray) (parts := _) (vs := [(0, _), (1, _), (2, _), (3, _)]) rfl Try.underlying83 sz29 ze83 rfl rfl) ?_
  refine At.s (S_alloc (some 5) 5 (zs := (List.replicate 4 0#64).map u64V) rfl ze83 rfl (fun b5 => ?_))
  refine At.s (S_storeA none (k := 5) (vs := _) rfl rfl rfl (by first | (rw [sz83]; simp <;> omega) | exact sz83) rfl (by first | (intro u hu; obtain ⟨z, _, rfl⟩ := List.mem_map.1 hu; rfl) | simp [Value.oneCell']) (by first | (simp; done) | (intro h; have h2 := congrArg List.length h; simp only [List.length_map, List.length_nil] at h2; omega) | (intro h; cases h)) rfl (by first | omega | (simp <;> omega) | rfl | (simp [*]; done)) ?_)
  refine At.nil ?_
  refine At.next ?_
  refine At.seq ?_
  refine At.seq ?_
  refine At.region ?_
  refine At.p (some 6) (P_assign rfl rfl) ?_
  refine At.nil ?_
  refine At.next ?_
  refine At.block ?_
  refine At.loopx (I := fun m fr H => ∃ i, m = 4 - i ∧ fr = frOf [(2, ptr b2 0), (3, ptr b3 0), (4, ptr b4 0), (5, ptr b5 0), (6, iV (i : Int))] ∧ H = hOf [(2, ⟨true, b2, 0, 60, ((qN s a b c d i).map Z).map u64V, 0⟩), (3, ⟨true, b3, 0, 62, [iV (a : Int), iV (b : Int), iV (c : Int), iV (d : Int)], 0⟩), (4, ⟨true, b4, 0, 60, (List.replicate 16 0#64).map u64V, 0⟩), (5, ⟨true, b5, 0, 83, [16#64, 12#64, 8#64, 7#64].map u64V, 0⟩)] ∧ i ≤ 4) ?_ ?_
  · intro Kc0 hKc0
    refine At.to [(2, _), (3, _), (4, _), (5, _), (6, _)] [(2, _), (3, _), (4, _), (5, _)] (AllL.cons_ (rfl) (AllL.cons_ (rfl) (AllL.cons_ (rfl) (AllL.cons_ (rfl) (AllL.cons_ (rfl) trivial))))) (AllL.cons_ (rfl) (AllL.cons_ (rfl) (AllL.cons_ (rfl) (AllL.cons_ (rfl) trivial)))) ?_
    exact hKc0 _ _ _ ⟨0, rfl, rfl, rfl, by omega⟩
  · rintro m fr H ⟨i, rfl, rfl, rfl, hi⟩ Kc0 hKc0
    refine At.seq ?_
    refine At.seq ?_
    refine At.region ?_
    refine At.p (some 11) (P_move rfl rfl) ?_
    refine At.p (some 12) (P_cmp rfl rfl rfl rfl rfl rfl) ?_
    refine At.nil ?_
    refine At.next ?_
    refine At.cond rfl (fun h12 => ?_) (fun h12 => ?_)
    · -- cond 12 t
      have hlt : i < 4 := by simp at h12; omega
      have hl : (qN s a b c d i).length = 16 := by rw [qN_len]; exact hs
      refine At.skip ?_
      refine At.next ?_
      refine At.seq ?_
      refine At.block ?_
      refine At.seq ?_
      refine At.draws 8 [] [.q false [0, 1, 2, 3, 4, 5, 6, 7]] (by kernel_rfl) (by kernel_rfl) ?_
      refine At.wp (some 15) (P_indexAddr_arr1 (j := 0) rfl Try.underlying62 sz3 rfl rfl rfl (by decide)) ?_
      refine At.wq (some 16) (Q_loadO (k := 3) rfl rfl Try.underlying3 rfl rfl rfl) ?_
      refine At.wp (some 17) (P_indexAddr_arr1 (j := 1) rfl Try.underlying62 sz3 rfl rfl rfl (by decide)) ?_
      refine At.wq (some 18) (Q_loadO (k := 3) rfl rfl Try.underlying3 rfl rfl rfl) ?_
      refine At.wp (some 19) (P_indexAddr_arr1 (j := 3) rfl Try.underlying62 sz3 rfl rfl rfl (by decide)) ?_
      refine At.wq (some 20) (Q_loadO (k := 3) rfl rfl Try.underlying3 rfl rfl rfl) ?_
      refine At.wp (some 7) (P_assign rfl rfl) ?_
      refine At.wp (some 8) (P_assign rfl rfl) ?_
      refine At.wqn ?_
      refine At.wt rfl ?_
      refine At.p (some 9) (P_assign rfl rfl) ?_
      refine At.nil ?_
      refine At.next ?_
      refine At.seq ?_
      refine At.seq ?_
      refine At.region ?_
      refine At.p (some 21) (P_move rfl rfl) ?_
      refine At.p (some 22) (P_rem_i rfl rfl rfl (by omega) (by first | decide | omega)) ?_
      refine At.p (some 23) (P_cmp rfl rfl rfl rfl rfl rfl) ?_
      refine At.nil ?_
      refine At.next ?_
      refine At.cond rfl (fun h23 => ?_) (fun h23 => ?_)
      · -- cond 23 t
        have hif : (if i % 2 = 1 then qStep (qN s a b c d i) c d b (byk i) else qStep (qN s a b c d i) a b d (byk i)) = qStep (qN s a b c d i) c d b (byk i) := if_pos (by simp at h23; omega)
        refine At.draws 8 [] [.q false [0, 1, 2, 3, 4, 5, 6, 7]] (by kernel_rfl) (by kernel_rfl) ?_
        refine At.wp (some 24) (P_indexAddr_arr1 (j := 2) rfl Try.underlying62 sz3 rfl rfl rfl (by decide)) ?_
        refine At.wq (some 25) (Q_loadO (k := 3) rfl rfl Try.underlying3 rfl rfl rfl) ?_
        refine At.wp (some 26) (P_indexAddr_arr1 (j := 3) rfl Try.underlying62 sz3 rfl rfl rfl (by decide)) ?_
        refine At.wq (some 27) (Q_loadO (k := 3) rfl rfl Try.underlying3 rfl rfl rfl) ?_
        refine At.wp (some 28) (P_indexAddr_arr1 (j := 1) rfl Try.underlying62 sz3 rfl rfl rfl (by decide)) ?_
        refine At.wq (some 29) (Q_loadO (k := 3) rfl rfl Try.underlying3 rfl rfl rfl) ?_
        refine At.wp (some 7) (P_assign rfl rfl) ?_
        refine At.wp (some 8) (P_assign rfl rfl) ?_
        refine At.wqn ?_
        refine At.wt rfl ?_
        refine At.p (some 9) (P_assign rfl rfl) ?_
        refine At.nil ?_
        refine At.next ?_
        refine At.seq ?_
        refine At.draws 9 [] [.q false [0, 1, 2, 3, 4, 5, 6, 7, 8]] (by kernel_rfl) (by kernel_rfl) ?_
        refine At.wp (some 30) (P_move rfl rfl) ?_
        refine At.wp (some 31) (P_move rfl rfl) ?_
        refine At.wp (some 32) (P_indexAddr_arr1 rfl Try.underlying60 sz29 rfl rfl rfl (by omega)) ?_
        refine At.wq (some 33) (Q_loadM (k := 2) (0#64) rfl rfl Try.underlying29 rfl rfl (by first | omega | (simp <;> omega))) ?_
        refine At.wp (some 34) (P_move rfl rfl) ?_
        refine At.wp (some 35) (P_indexAddr_arr1 rfl Try.underlying60 sz29 rfl rfl rfl (by omega)) ?_
        refine At.wq (some 36) (Q_loadM (k := 2) (0#64) rfl rfl Try.underlying29 rfl rfl (by first | omega | (simp <;> omega))) ?_
        refine At.wp (some 37) (P_add_w UK.u64 rfl rfl rfl) ?_
        refine At.wcV (some 38) [] (vs := [_]) rfl en31 rfl V0 (r_cut _) ?_
        refine At.wqn ?_
        refine At.wt rfl ?_
        refine At.p (some 39) (P_indexAddr_arr1 rfl Try.underlying60 sz29 rfl rfl rfl (by omega)) ?_
        refine At.s (S_storeM none (f := u64V) (k := 2) rfl rfl rfl sz29 rfl rfl rfl (by first | omega | (simp <;> omega)) ?_)
        refine At.nil ?_
        refine At.next ?_
        refine At.draws 12 [] [.q false [0, 1, 2, 3, 4, 5, 6, 7, 8, 9, 10, 11]] (by kernel_rfl) (by kernel_rfl) ?_
        refine At.wp (some 40) (P_move rfl rfl) ?_
        refine At.wp (some 41) (P_move rfl rfl) ?_
        refine At.wp (some 42) (P_indexAddr_arr1 rfl Try.underlying60 sz29 rfl rfl rfl (by omega)) ?_
        refine At.wq (some 43) (Q_loadM (k := 2) (0#64) rfl rfl Try.underlying29 rfl rfl (by first | omega | (simp <;> omega))) ?_
        refine At.wp (some 44) (P_move rfl rfl) ?_
        refine At.wp (some 45) (P_indexAddr_arr1 rfl Try.underlying60 sz29 rfl rfl rfl (by omega)) ?_
        refine At.wq (some 46) (Q_loadM (k := 2) (0#64) rfl rfl Try.underlying29 rfl rfl (by first | omega | (simp <;> omega))) ?_
        refine At.wp (some 47) (P_xor_w UK.u64 rfl rfl rfl) ?_
        refine At.wp (some 48) (P_move rfl rfl) ?_
        refine At.wp (some 49) (P_indexAddr_arr1 rfl Try.underlying83 sz29 rfl rfl rfl (by omega)) ?_
        refine At.wq (some 50) (Q_loadM (k := 5) (0#64) rfl rfl Try.underlying29 rfl rfl (by first | omega | (simp <;> omega))) ?_
        refine At.wcV (some 51) [] (vs := [_, _]) rfl en44 rfl V0 (r_left _ _) ?_
        refine At.wqn ?_
        refine At.wt rfl ?_
        refine At.p (some 52) (P_indexAddr_arr1 rfl Try.underlying60 sz29 rfl rfl rfl (by omega)) ?_
        refine At.s (S_storeM none (f := u64V) (k := 2) rfl rfl rfl sz29 rfl rfl rfl (by first | omega | (simp <;> omega)) ?_)
        refine At.nil ?_
        refine At.inb_n ?_
        refine At.next ?_
        refine At.region ?_
        refine At.p (some 13) (P_move rfl rfl) ?_
        refine At.p (some 14) (P_add_i rfl rfl rfl (by omega)) ?_
        refine At.p (some 6) (P_assign rfl rfl) ?_
        refine At.nil ?_
        refine At.next ?_
        refine At.to [(2, _), (3, _), (4, _), (5, _), (6, _)] [(2, ⟨true, b2, 0, 60, ((qN s a b c d (i + 1)).map Z).map u64V, 0⟩), (3, _), (4, _), (5, _)] (AllL.cons_ (rfl) (AllL.cons_ (rfl) (AllL.cons_ (rfl) (AllL.cons_ (rfl) (AllL.cons_ (rfl) trivial))))) (AllL.cons_ (by rw [qN, hif]; exact congrArg (fun l => some (⟨true, b2, 0, 60, List.map u64V l, 0⟩ : Row)) (Z_step (qN s a b c d i) _ _ _ hlt)) (AllL.cons_ (rfl) (AllL.cons_ (rfl) (AllL.cons_ (rfl) trivial)))) ?_
        exact hKc0 _ _ _ (by omega) ⟨i + 1, rfl, rfl, rfl, by omega⟩
      · -- cond 23 f
        have hif : (if i % 2 = 1 then qStep (qN s a b c d i) c d b (byk i) else qStep (qN s a b c d i) a b d (byk i)) = qStep (qN s a b c d i) a b d (byk i) := if_neg (by simp at h23; omega)
        refine At.skip ?_
        refine At.next ?_
        refine At.seq ?_
        refine At.draws 9 [] [.q false [0, 1, 2, 3, 4, 5, 6, 7, 8]] (by kernel_rfl) (by kernel_rfl) ?_
        refine At.wp (some 30) (P_move rfl rfl) ?_
        refine At.wp (some 31) (P_move rfl rfl) ?_
        refine At.wp (some 32) (P_indexAddr_arr1 rfl Try.underlying60 sz29 rfl rfl rfl (by omega)) ?_
        refine At.wq (some 33) (Q_loadM (k := 2) (0#64) rfl rfl Try.underlying29 rfl rfl (by first | omega | (simp <;> omega))) ?_
        refine At.wp (some 34) (P_move rfl rfl) ?_
        refine At.wp (some 35) (P_indexAddr_arr1 rfl Try.underlying60 sz29 rfl rfl rfl (by omega)) ?_
        refine At.wq (some 36) (Q_loadM (k := 2) (0#64) rfl rfl Try.underlying29 rfl rfl (by first | omega | (simp <;> omega))) ?_
        refine At.wp (some 37) (P_add_w UK.u64 rfl rfl rfl) ?_
        refine At.wcV (some 38) [] (vs := [_]) rfl en31 rfl V0 (r_cut _) ?_
        refine At.wqn ?_
        refine At.wt rfl ?_
        refine At.p (some 39) (P_indexAddr_arr1 rfl Try.underlying60 sz29 rfl rfl rfl (by omega)) ?_
        refine At.s (S_storeM none (f := u64V) (k := 2) rfl rfl rfl sz29 rfl rfl rfl (by first | omega | (simp <;> omega)) ?_)
        refine At.nil ?_
        refine At.next ?_
        refine At.draws 12 [] [.q false [0, 1, 2, 3, 4, 5, 6, 7, 8, 9, 10, 11]] (by kernel_rfl) (by kernel_rfl) ?_
        refine At.wp (some 40) (P_move rfl rfl) ?_
        refine At.wp (some 41) (P_move rfl rfl) ?_
        refine At.wp (some 42) (P_indexAddr_arr1 rfl Try.underlying60 sz29 rfl rfl rfl (by omega)) ?_
        refine At.wq (some 43) (Q_loadM (k := 2) (0#64) rfl rfl Try.underlying29 rfl rfl (by first | omega | (simp <;> omega))) ?_
        refine At.wp (some 44) (P_move rfl rfl) ?_
        refine At.wp (some 45) (P_indexAddr_arr1 rfl Try.underlying60 sz29 rfl rfl rfl (by omega)) ?_
        refine At.wq (some 46) (Q_loadM (k := 2) (0#64) rfl rfl Try.underlying29 rfl rfl (by first | omega | (simp <;> omega))) ?_
        refine At.wp (some 47) (P_xor_w UK.u64 rfl rfl rfl) ?_
        refine At.wp (some 48) (P_move rfl rfl) ?_
        refine At.wp (some 49) (P_indexAddr_arr1 rfl Try.underlying83 sz29 rfl rfl rfl (by omega)) ?_
        refine At.wq (some 50) (Q_loadM (k := 5) (0#64) rfl rfl Try.underlying29 rfl rfl (by first | omega | (simp <;> omega))) ?_
        refine At.wcV (some 51) [] (vs := [_, _]) rfl en44 rfl V0 (r_left _ _) ?_
        refine At.wqn ?_
        refine At.wt rfl ?_
        refine At.p (some 52) (P_indexAddr_arr1 rfl Try.underlying60 sz29 rfl rfl rfl (by omega)) ?_
        refine At.s (S_storeM none (f := u64V) (k := 2) rfl rfl rfl sz29 rfl rfl rfl (by first | omega | (simp <;> omega)) ?_)
        refine At.nil ?_
        refine At.inb_n ?_
        refine At.next ?_
        refine At.region ?_
        refine At.p (some 13) (P_move rfl rfl) ?_
        refine At.p (some 14) (P_add_i rfl rfl rfl (by omega)) ?_
        refine At.p (some 6) (P_assign rfl rfl) ?_
        refine At.nil ?_
        refine At.next ?_
        refine At.to [(2, _), (3, _), (4, _), (5, _), (6, _)] [(2, ⟨true, b2, 0, 60, ((qN s a b c d (i + 1)).map Z).map u64V, 0⟩), (3, _), (4, _), (5, _)] (AllL.cons_ (rfl) (AllL.cons_ (rfl) (AllL.cons_ (rfl) (AllL.cons_ (rfl) (AllL.cons_ (rfl) trivial))))) (AllL.cons_ (by rw [qN, hif]; exact congrArg (fun l => some (⟨true, b2, 0, 60, List.map u64V l, 0⟩ : Row)) (Z_step (qN s a b c d i) _ _ _ hlt)) (AllL.cons_ (rfl) (AllL.cons_ (rfl) (AllL.cons_ (rfl) trivial)))) ?_
        exact hKc0 _ _ _ (by omega) ⟨i + 1, rfl, rfl, rfl, by omega⟩
    · -- cond 12 f
      obtain rfl : i = 4 := by simp at h12; omega
      have hl : (qN s a b c d 4).length = 16 := by rw [qN_len]; exact hs
      refine At.exit ?_
      refine At.thn_e ?_
      refine At.thn_e ?_
      refine At.inb_hit ?_
      refine At.next ?_
      refine At.seq ?_
      refine At.region ?_
      refine At.q (some 53) (Q_loadA (k := 2) rfl rfl Try.underlying60 rfl sz60 (by first | omega | (simp <;> omega)) rfl) ?_
      refine At.s (S_storeA none (k := 4) (vs := _) rfl rfl rfl (by first | (rw [sz60]; simp <;> omega) | exact sz60) rfl (by first | (intro u hu; obtain ⟨z, _, rfl⟩ := List.mem_map.1 hu; rfl) | simp [Value.oneCell']) (by first | (simp; done) | (intro h; have h2 := congrArg List.length h; simp only [List.length_map, List.length_nil] at h2; omega) | (intro h; cases h)) rfl (by first | omega | (simp <;> omega) | rfl | (simp [*]; done)) ?_)
      refine At.nil ?_
      refine At.next ?_
      refine At.ret ?_
      refine At.giveV (.inl rfl) [] (rows' := []) (ResV.cellA (k := 4) rfl rfl Try.underlying60 rfl sz60 (by simp [hl]) rfl) rfl (by simp) (by simp) ?_
      exact ⟨rfl, rfl⟩

theorem r_quarterI {s : List (BitVec 32)} (hs : s.length = 16) {a b c d : Nat} {ai bi ci di : Int} (ha : a < 16) (hb : b < 16) (hc : c < 16) (hd : d < 16) (ea : ai = (a : Int)) (eb : bi = (b : Int)) (ec : ci = (c : Int)) (ed : di = (d : Int)) :
    Con Try.prog 30 [.agg ((s.map Z).map u64V).toArray, .agg ([iV ai, iV bi, iV ci, iV di]).toArray] [] (fun v rs => v = .agg (((qS s a b c d).map Z).map u64V).toArray ∧ rs = []) := by
  subst ea eb ec ed
  exact r_quarter s hs a b c d ha hb hc hd

theorem r_Block (key nonce : List (BitVec 8)) (count : BitVec 32) (hkey : key.length = 32) (hnonce : nonce.length = 12) :
    Con Try.prog 17 [aggB key, u32V count, aggB nonce] [] (fun v rs => v = aggB (blockS key count nonce) ∧ rs = []) := by
  refine Con.enter Try.func17 Try.ntmps17 (Nat.le_of_ble_eq_true rfl) rfl fun w => ?_
  refine At.seq ?_
  have hI := initS_len count hkey hnonce
  have hB := blockB_len count hkey hnonce
  have hk32 : key.length = 32 := hkey
  refine At.region ?_
  refine At.s (S_box (some 3) 3 (zs := key.map u8V) rfl rfl rfl (fun b3 => ?_))
  refine At.s (S_box (some 5) 5 (zs := nonce.map u8V) rfl rfl rfl (fun b5 => ?_))
  refine At.s (S_alloc (some 6) 6 (zs := (List.replicate 64 0#8).map u8V) rfl ze26 rfl (fun b6 => ?_))
  refine At.nil ?_
  refine At.next ?_
  refine At.seq ?_
  refine At.region ?_
  refine At.s (S_buildSliceV (some 16) 7 [_, _, _, _, _, _, _, _, _, _, _, _, _, _, _, _] rfl Try.underlying31 sz5 ze5 rfl rfl (by decide) (by decide) rfl ⟨rfl, rfl, rfl, rfl, rfl, rfl, rfl, rfl, rfl, rfl, rfl, rfl, rfl, rfl, rfl, rfl⟩ (fun b7 => ?_))
  refine At.s (S_convB (some 17) (k := 7) rfl Try.underlying31 Try.underlying5 rfl rfl (by simp) ?_)
  refine At.p (some 7) (P_assign rfl rfl) ?_
  refine At.nil ?_
  refine At.next ?_
  refine At.seq ?_
  refine At.region ?_
  refine At.p (some 18) (P_move rfl rfl) ?_
  refine At.p (some 19) (P_slice_arr1 rfl Try.underlying22 sz5 rfl rfl rfl rfl (by omega) (by omega) (by omega) (by omega)) ?_
  refine At.s (S_appendM (some 20) 7 (expandB ++ key) (f := u8V) (l := expandB) (L := key) rfl Try.underlying31 Try.underlying31 (.inr ⟨_, rfl⟩) sz5 by5 ze5 rfl rfl (fun _ => ⟨rfl, rfl⟩) rfl (by decide) (Src.row (k := 3) (j := 0) rfl (fun _ => rfl) (fun _ => ⟨rfl, rfl, rfl⟩) (by simp [List.take_of_length_le, hkey]) (by simp [hkey])) (fun _ => rfl) (by decide) (by decide) rfl hkey ?_)
  intro A20 q20 c20 g20a g20b
  refine At.p (some 7) (P_assign rfl rfl) ?_
  refine At.nil ?_
  refine At.next ?_
  refine At.seq ?_
  refine At.region ?_
  refine At.p (some 21) (P_move rfl rfl) ?_
  refine At.p (some 22) (P_move rfl rfl) ?_
  refine At.p (some 23) (P_conv_ww UK.u8 (m := 32) rfl Try.underlying23 Try.underlying5 rfl) ?_
  refine At.p (some 24) (P_move rfl rfl) ?_
  refine At.p (some 25) (P_shr_w UK.u32 (n := 32) rfl rfl rfl (by first | decide | omega)) ?_
  refine At.p (some 26) (P_conv_ww UK.u8 (m := 32) rfl Try.underlying23 Try.underlying5 rfl) ?_
  refine At.p (some 27) (P_move rfl rfl) ?_
  refine At.p (some 28) (P_shr_w UK.u32 (n := 32) rfl rfl rfl (by first | decide | omega)) ?_
  refine At.p (some 29) (P_conv_ww UK.u8 (m := 32) rfl Try.underlying23 Try.underlying5 rfl) ?_
  refine At.p (some 30) (P_move rfl rfl) ?_
  refine At.p (some 31) (P_shr_w UK.u32 (n := 32) rfl rfl rfl (by first | decide | omega)) ?_
  refine At.p (some 32) (P_conv_ww UK.u8 (m := 32) rfl Try.underlying23 Try.underlying5 rfl) ?_
  refine At.s (S_buildSliceV (some 33) 13 [_, _, _, _] rfl Try.underlying31 sz5 ze5 rfl rfl (by decide) (by decide) rfl ⟨rfl, rfl, rfl, rfl⟩ (fun b13 => ?_))
  refine At.s (S_appendM (some 34) 7 (expandB ++ key ++ cntB count) (f := u8V) (l := expandB ++ key) (L := cntB count) rfl Try.underlying31 Try.underlying31 (.inr ⟨_, rfl⟩) sz5 by5 ze5 rfl rfl (fun h => ⟨g20a h, rfl⟩) rfl (by omega) (Src.row (k := 13) (j := 0) rfl (fun _ => rfl) (fun _ => ⟨rfl, rfl, rfl⟩) rfl rfl) (fun _ => rfl) (by simp only [List.length_append, hkey, hnonce, expandB, cntB, List.length_cons, List.length_nil]; decide) (by simp only [List.length_append, hkey, hnonce, expandB, cntB, List.length_cons, List.length_nil]; decide) rfl rfl ?_)
  intro A34 q34 c34 g34a g34b
  refine At.p (some 7) (P_assign rfl rfl) ?_
  refine At.nil ?_
  refine At.next ?_
  refine At.seq ?_
  refine At.region ?_
  refine At.p (some 35) (P_move rfl rfl) ?_
  refine At.p (some 36) (P_slice_arr1 rfl Try.underlying24 sz5 rfl rfl rfl rfl (by omega) (by omega) (by omega) (by omega)) ?_
  refine At.s (S_appendM (some 37) 7 ((blockB key count nonce)) (f := u8V) (l := expandB ++ key ++ cntB count) (L := nonce) rfl Try.underlying31 Try.underlying31 (.inr ⟨_, rfl⟩) sz5 by5 ze5 rfl rfl (fun h => ⟨g34a h, rfl⟩) rfl (by omega) (Src.row (k := 5) (j := 0) rfl (fun _ => rfl) (fun _ => ⟨rfl, rfl, rfl⟩) (by simp [List.take_of_length_le, hnonce]) (by simp [hnonce])) (fun _ => rfl) (by simp only [List.length_append, hkey, hnonce, expandB, cntB, List.length_cons, List.length_nil]; decide) (by simp only [List.length_append, hkey, hnonce, expandB, cntB, List.length_cons, List.length_nil]; decide) rfl hnonce ?_)
  intro A7 q7 c7 g7a g7b
  refine At.p (some 7) (P_assign rfl rfl) ?_
  refine At.nil ?_
  refine At.next ?_
  refine At.seq ?_
  refine At.region ?_
  refine At.s (S_alloc (some 8) 8 (zs := (List.replicate 16 0#64).map u64V) rfl ze60 rfl (fun b8 => ?_))
  refine At.nil ?_
  refine At.next ?_
  refine At.seq ?_
  refine At.seq ?_
  refine At.region ?_
  refine At.p (some 9) (P_assign rfl rfl) ?_
  refine At.nil ?_
  refine At.next ?_
  refine At.block ?_
  refine At.loopx (I := fun m fr H => ∃ k, m = 2 * k ∧ fr = frOf [(6, ptr b6 0), (7, .slice A7 (blockB key count nonce).length c7), (8, ptr b8 0), (9, iV ((k : Int) - 1))] ∧ H = hOf [(6, ⟨true, b6, 0, 26, (List.replicate 64 0#8).map u8V, 0⟩), (7, ⟨true, q7, 0, 5, (blockB key count nonce).map u8V, c7 - (blockB key count nonce).length⟩), (8, ⟨true, b8, 0, 60, (sTo (blockB key count nonce) k).map u64V, 0⟩)] ∧ k ≤ 64) ?_ ?_
  · intro Kc0 hKc0
    refine At.to [(6, _), (7, _), (8, _), (9, iV (((64 : Nat) : Int) - 1))] [(6, _), (7, _), (8, ⟨true, b8, 0, 60, (sTo (blockB key count nonce) 64).map u64V, 0⟩)] (AllL.cons_ (rfl) (AllL.cons_ (rfl) (AllL.cons_ (rfl) (AllL.cons_ (rfl) trivial)))) (AllL.cons_ (rfl) (AllL.cons_ (rfl) (AllL.cons_ (by rw [sTo_64]; rfl) trivial))) ?_
    exact hKc0 _ _ _ ⟨64, rfl, rfl, rfl, by omega⟩
  · rintro m fr H ⟨k, rfl, rfl, rfl, hk⟩ Kc0 hKc0
    refine At.seq ?_
    refine At.seq ?_
    refine At.region ?_
    refine At.p (some 38) (P_move rfl rfl) ?_
    refine At.p (some 39) (P_cmp rfl rfl rfl rfl rfl rfl) ?_
    refine At.nil ?_
    refine At.next ?_
    refine At.cond rfl (fun h39 => ?_) (fun h39 => ?_)
    · -- cond 39 t
      have hk0 : 0 < k := by simp at h39; omega
      refine At.skip ?_
      refine At.next ?_
      refine At.seq ?_
      refine At.block ?_
      have hsl : (sTo (blockB key count nonce) k).length = 16 := sTo_len _ _
      refine At.draws 13 [] [.q false [0, 1, 2, 3, 4, 5, 6, 7, 8, 9, 10, 11, 12]] (by kernel_rfl) (by kernel_rfl) ?_
      refine At.wp (some 42) (P_move rfl rfl) ?_
      refine At.wp (some 43) (P_quo_i rfl rfl rfl (by omega) (by omega) (by first | decide | omega)) ?_
      refine At.wp (some 44) (P_move rfl rfl) ?_
      refine At.wp (some 45) (P_quo_i rfl rfl rfl (by omega) (by omega) (by first | decide | omega)) ?_
      refine At.wp (some 46) (P_indexAddr_arr1 (j := (k - 1) / 4) rfl Try.underlying60 sz29 rfl rfl (by omega) (by omega)) ?_
      refine At.wq (some 47) (Q_loadM (k := 8) (0#64) rfl rfl Try.underlying29 rfl rfl (by first | omega | (simp <;> omega))) ?_
      refine At.wp (some 48) (P_mul_w UK.u64 (b := 256#64) rfl rfl rfl) ?_
      refine At.wp (some 49) (P_move rfl rfl) ?_
      refine At.wp (some 50) (P_move rfl rfl) ?_
      refine At.wp (some 51) (P_indexAddr_slz (j := k - 1) rfl Try.underlying31 sz5 rfl (g7a (by omega)) rfl (by omega) (by omega)) ?_
      refine At.wq (some 52) (Q_loadM (k := 7) (0#8) rfl rfl Try.underlying5 rfl rfl (by first | omega | (simp <;> omega))) ?_
      refine At.wp (some 53) (P_conv_ww UK.u64 (m := 8) rfl Try.underlying5 Try.underlying29 rfl) ?_
      refine At.wp (some 54) (P_add_w UK.u64 rfl rfl rfl) ?_
      refine At.wqn ?_
      refine At.wt rfl ?_
      refine At.p (some 55) (P_indexAddr_arr1 (j := (k - 1) / 4) rfl Try.underlying60 sz29 rfl rfl (by omega) (by omega)) ?_
      refine At.s (S_storeM none (f := u64V) (k := 8) rfl rfl rfl sz29 rfl rfl rfl (by first | omega | (simp <;> omega)) ?_)
      refine At.nil ?_
      refine At.inb_n ?_
      refine At.next ?_
      refine At.region ?_
      refine At.p (some 40) (P_move rfl rfl) ?_
      refine At.p (some 41) (P_sub_i rfl rfl rfl (by omega)) ?_
      refine At.p (some 9) (P_assign rfl rfl) ?_
      refine At.nil ?_
      refine At.next ?_
      refine At.to [(6, _), (7, _), (8, _), (9, iV (((k - 1 : Nat) : Int) - 1))] [(6, _), (7, _), (8, ⟨true, b8, 0, 60, (sTo (blockB key count nonce) (k - 1)).map u64V, 0⟩)] (AllL.cons_ (rfl) (AllL.cons_ (rfl) (AllL.cons_ (rfl) (AllL.cons_ (by rw [show (((k - 1 : Nat) : Int) - 1) = (k : Int) - 1 - 1 by omega]; rfl) trivial)))) (AllL.cons_ (rfl) (AllL.cons_ (rfl) (AllL.cons_ (congrArg (fun l => some (⟨true, b8, 0, 60, List.map u64V l, 0⟩ : Row)) (sTo_step (blockB key count nonce) hk0 hk)) trivial))) ?_
      exact hKc0 _ _ _ (by omega) ⟨k - 1, rfl, rfl, rfl, by omega⟩
    · -- cond 39 f
      obtain rfl : k = 0 := by simp at h39; omega
      refine At.exit ?_
      refine At.thn_e ?_
      refine At.thn_e ?_
      refine At.inb_hit ?_
      refine At.next ?_
      refine At.seq ?_
      rw [show sTo (blockB key count nonce) 0 = (initS key count nonce).map Z from by rw [sTo_0 hB, blockB_words count hkey]]
      refine At.region ?_
      refine At.q (some 56) (Q_loadA (k := 8) rfl rfl Try.underlying60 rfl sz60 (by first | omega | (simp <;> omega)) rfl) ?_
      refine At.s (S_alloc (some 10) 10 (zs := (List.replicate 16 0#64).map u64V) rfl ze60 rfl (fun b10 => ?_))
      refine At.s (S_storeA none (k := 10) (vs := _) rfl rfl rfl (by first | (rw [sz60]; simp <;> omega) | exact sz60) rfl (by first | (intro u hu; obtain ⟨z, _, rfl⟩ := List.mem_map.1 hu; rfl) | simp [Value.oneCell']) (by first | (simp; done) | (intro h; have h2 := congrArg List.length h; simp only [List.length_map, List.length_nil] at h2; omega) | (intro h; cases h)) rfl (by first | omega | (simp <;> omega) | rfl | (simp [*]; done)) ?_)
      refine At.nil ?_
      refine At.next ?_
      refine At.seq ?_
      refine At.seq ?_
      refine At.region ?_
      refine At.p (some 11) (P_assign rfl rfl) ?_
      refine At.nil ?_
      refine At.next ?_
      refine At.block ?_
      refine At.loopx (I := fun m fr H => ∃ r, m = 20 - r ∧ fr = frOf [(6, ptr b6 0), (8, ptr b8 0), (10, ptr b10 0), (11, iV (r : Int))] ∧ H = hOf [(6, ⟨true, b6, 0, 26, (List.replicate 64 0#8).map u8V, 0⟩), (8, ⟨true, b8, 0, 60, ((initS key count nonce).map Z).map u64V, 0⟩), (10, ⟨true, b10, 0, 60, ((rN r (initS key count nonce)).map Z).map u64V, 0⟩)] ∧ r ≤ 20) ?_ ?_
      · intro Kc1 hKc1
        refine At.to [(6, _), (8, _), (10, _), (11, _)] [(6, _), (8, _), (10, _)] (AllL.cons_ (rfl) (AllL.cons_ (rfl) (AllL.cons_ (rfl) (AllL.cons_ (rfl) trivial)))) (AllL.cons_ (rfl) (AllL.cons_ (rfl) (AllL.cons_ (rfl) trivial))) ?_
        exact hKc1 _ _ _ ⟨0, rfl, rfl, rfl, by omega⟩
      · rintro m fr H ⟨r, rfl, rfl, rfl, hr⟩ Kc1 hKc1
        refine At.seq ?_
        refine At.seq ?_
        refine At.region ?_
        refine At.p (some 57) (P_move rfl rfl) ?_
        refine At.p (some 58) (P_cmp rfl rfl rfl rfl rfl rfl) ?_
        refine At.nil ?_
        refine At.next ?_
        refine At.cond rfl (fun h58 => ?_) (fun h58 => ?_)
        · -- cond 58 t
          have hlt : r < 20 := by simp at h58; omega
          refine At.skip ?_
          refine At.next ?_
          refine At.seq ?_
          refine At.block ?_
          refine At.seq ?_
          refine At.region ?_
          refine At.p (some 12) (P_assign rfl rfl) ?_
          refine At.nil ?_
          refine At.next ?_
          refine At.block ?_
          refine At.loopx (I := fun m fr H => ∃ i, m = 4 - i ∧ fr = frOf [(6, ptr b6 0), (8, ptr b8 0), (10, ptr b10 0), (11, iV (r : Int)), (12, iV (i : Int))] ∧ H = hOf [(6, ⟨true, b6, 0, 26, (List.replicate 64 0#8).map u8V, 0⟩), (8, ⟨true, b8, 0, 60, ((initS key count nonce).map Z).map u64V, 0⟩), (10, ⟨true, b10, 0, 60, ((rndS (r % 2) i (rN r (initS key count nonce))).map Z).map u64V, 0⟩)] ∧ i ≤ 4) ?_ ?_
          · intro Kc2 hKc2
            refine At.to [(6, _), (8, _), (10, _), (11, _), (12, _)] [(6, _), (8, _), (10, ⟨true, b10, 0, 60, ((rndS (r % 2) 0 (rN r (initS key count nonce))).map Z).map u64V, 0⟩)] (AllL.cons_ (rfl) (AllL.cons_ (rfl) (AllL.cons_ (rfl) (AllL.cons_ (rfl) (AllL.cons_ (rfl) trivial))))) (AllL.cons_ (rfl) (AllL.cons_ (rfl) (AllL.cons_ (rfl) trivial))) ?_
            exact hKc2 _ _ _ ⟨0, rfl, rfl, rfl, by omega⟩
          · rintro m fr H ⟨i, rfl, rfl, rfl, hi⟩ Kc2 hKc2
            refine At.seq ?_
            refine At.seq ?_
            refine At.region ?_
            refine At.p (some 61) (P_move rfl rfl) ?_
            refine At.p (some 62) (P_cmp rfl rfl rfl rfl rfl rfl) ?_
            refine At.nil ?_
            refine At.next ?_
            refine At.cond rfl (fun h62 => ?_) (fun h62 => ?_)
            · -- cond 62 t
              have hlt2 : i < 4 := by simp at h62; omega
              have hR : (rndS (r % 2) i (rN r (initS key count nonce))).length = 16 := by rw [rndS_len, rN_len]; exact hI
              have hQ : (qS (rndS (r % 2) i (rN r (initS key count nonce))) i (4 + (i + r % 2) % 4) (8 + (i + 2 * (r % 2)) % 4) (12 + (i + 3 * (r % 2)) % 4)).length = 16 := by rw [qS_len]; exact hR
              refine At.skip ?_
              refine At.next ?_
              refine At.seq ?_
              refine At.block ?_
              refine At.seq ?_
              refine At.region ?_
              refine At.p (some 65) (P_move rfl rfl) ?_
              refine At.p (some 66) (P_rem_i rfl rfl rfl (by omega) (by first | decide | omega)) ?_
              refine At.p (some 13) (P_assign rfl rfl) ?_
              refine At.nil ?_
              refine At.next ?_
              refine At.region ?_
              refine At.q (some 67) (Q_loadA (k := 10) rfl rfl Try.underlying60 rfl sz60 (by first | omega | (simp <;> omega)) rfl) ?_
              refine At.p (some 68) (P_move rfl rfl) ?_
              refine At.p (some 69) (P_move rfl rfl) ?_
              refine At.p (some 70) (P_move rfl rfl) ?_
              refine At.p (some 71) (P_add_i rfl rfl rfl (by omega)) ?_
              refine At.p (some 72) (P_rem_i rfl rfl rfl (by omega) (by first | decide | omega)) ?_
              refine At.p (some 73) (P_add_i rfl rfl rfl (by omega)) ?_
              refine At.p (some 74) (P_move rfl rfl) ?_
              refine At.p (some 75) (P_move rfl rfl) ?_
              refine At.p (some 76) (P_mul_i rfl rfl rfl (by omega)) ?_
              refine At.p (some 77) (P_add_i rfl rfl rfl (by omega)) ?_
              refine At.p (some 78) (P_rem_i rfl rfl rfl (by omega) (by first | decide | omega)) ?_
              refine At.p (some 79) (P_add_i rfl rfl rfl (by omega)) ?_
              refine At.p (some 80) (P_move rfl rfl) ?_
              refine At.p (some 81) (P_move rfl rfl) ?_
              refine At.p (some 82) (P_mul_i rfl rfl rfl (by omega)) ?_
              refine At.p (some 83) (P_add_i rfl rfl rfl (by omega)) ?_
              refine At.p (some 84) (P_rem_i rfl rfl rfl (by omega) (by first | decide | omega)) ?_
              refine At.p (some 85) (P_add_i rfl rfl rfl (by omega)) ?_
              refine At.p (some 86) (P_build_arr (cs := ([iV (i : Int), iV (4 + ((i : Int) + (r : Int) % 2) % 4), iV (8 + ((i : Int) + 2 * ((r : Int) % 2)) % 4), iV (12 + ((i : Int) + 3 * ((r : Int) % 2)) % 4)]).toArray) (parts := _) (vs := [(0, _), (1, _), (2, _), (3, _)]) rfl Try.underlying62 sz3 ze62 rfl rfl) ?_
              refine At.s (S_callV (some 87) [] [] (vs := [_, _]) rfl en30 rfl V0 (by simp) (r_quarterI (by rw [rndS_len, rN_len]; exact hI) (a := i) (b := 4 + (i + r % 2) % 4) (c := 8 + (i + 2 * (r % 2)) % 4) (d := 12 + (i + 3 * (r % 2)) % 4) (by omega) (by omega) (by omega) (by omega) rfl (by omega) (by omega) (by omega)) (by rintro _ _ ⟨rfl, rfl⟩; rfl) ?_)
              rintro _ _ ⟨rfl, rfl⟩
              refine At.s (S_storeA none (k := 10) (vs := _) rfl rfl rfl (by first | (rw [sz60]; simp <;> omega) | exact sz60) rfl (by first | (intro u hu; obtain ⟨z, _, rfl⟩ := List.mem_map.1 hu; rfl) | simp [Value.oneCell']) (by first | (simp; done) | (intro h; have h2 := congrArg List.length h; simp only [List.length_map, List.length_nil] at h2; omega) | (intro h; cases h)) rfl (by first | omega | (simp <;> omega) | rfl | (simp [*]; done)) ?_)
              refine At.nil ?_
              refine At.inb_n ?_
              refine At.next ?_
              refine At.region ?_
              refine At.p (some 63) (P_move rfl rfl) ?_
              refine At.p (some 64) (P_add_i rfl rfl rfl (by omega)) ?_
              refine At.p (some 12) (P_assign rfl rfl) ?_
              refine At.nil ?_
              refine At.next ?_
              refine At.to [(6, _), (8, _), (10, _), (11, _), (12, _)] [(6, _), (8, _), (10, ⟨true, b10, 0, 60, ((rndS (r % 2) (i + 1) (rN r (initS key count nonce))).map Z).map u64V, 0⟩)] (AllL.cons_ (rfl) (AllL.cons_ (rfl) (AllL.cons_ (rfl) (AllL.cons_ (rfl) (AllL.cons_ (rfl) trivial))))) (AllL.cons_ (rfl) (AllL.cons_ (rfl) (AllL.cons_ (congrArg (fun l => some (⟨true, b10, 0, 60, List.map u64V (List.map Z l), 0⟩ : Row)) (by rw [rndS])) trivial))) ?_
              exact hKc2 _ _ _ (by omega) ⟨i + 1, rfl, rfl, rfl, by omega⟩
            · -- cond 62 f
              obtain rfl : i = 4 := by simp at h62; omega
              refine At.exit ?_
              refine At.thn_e ?_
              refine At.thn_e ?_
              refine At.inb_hit ?_
              refine At.inb_n ?_
              refine At.next ?_
              refine At.region ?_
              refine At.p (some 59) (P_move rfl rfl) ?_
              refine At.p (some 60) (P_add_i rfl rfl rfl (by omega)) ?_
              refine At.p (some 11) (P_assign rfl rfl) ?_
              refine At.nil ?_
              refine At.next ?_
              refine At.to [(6, _), (8, _), (10, _), (11, _)] [(6, _), (8, _), (10, ⟨true, b10, 0, 60, ((rN (r + 1) (initS key count nonce)).map Z).map u64V, 0⟩)] (AllL.cons_ (rfl) (AllL.cons_ (rfl) (AllL.cons_ (rfl) (AllL.cons_ (rfl) trivial)))) (AllL.cons_ (rfl) (AllL.cons_ (rfl) (AllL.cons_ (rfl) trivial))) ?_
              exact hKc1 _ _ _ (by omega) ⟨r + 1, rfl, rfl, rfl, by omega⟩
        · -- cond 58 f
          obtain rfl : r = 20 := by simp at h58; omega
          refine At.exit ?_
          refine At.thn_e ?_
          refine At.thn_e ?_
          refine At.inb_hit ?_
          refine At.next ?_
          refine At.seq ?_
          refine At.region ?_
          refine At.s (S_alloc (some 14) 14 (zs := (outTo (mixN 10 (initS key count nonce)) (initS key count nonce) 0).map u8V) rfl ze26 rfl (fun b14 => ?_))
          refine At.nil ?_
          refine At.next ?_
          refine At.seq ?_
          refine At.seq ?_
          refine At.region ?_
          refine At.p (some 15) (P_assign rfl rfl) ?_
          refine At.nil ?_
          refine At.next ?_
          refine At.block ?_
          refine At.loopx (I := fun m fr H => ∃ i, m = 64 - i ∧ fr = frOf [(6, ptr b6 0), (8, ptr b8 0), (10, ptr b10 0), (14, ptr b14 0), (15, iV (i : Int))] ∧ H = hOf [(6, ⟨true, b6, 0, 26, (List.replicate 64 0#8).map u8V, 0⟩), (8, ⟨true, b8, 0, 60, ((initS key count nonce).map Z).map u64V, 0⟩), (10, ⟨true, b10, 0, 60, ((rN 20 (initS key count nonce)).map Z).map u64V, 0⟩), (14, ⟨true, b14, 0, 26, (outTo (mixN 10 (initS key count nonce)) (initS key count nonce) i).map u8V, 0⟩)] ∧ i ≤ 64) ?_ ?_
          · intro Kc3 hKc3
            refine At.to [(6, _), (8, _), (10, _), (14, _), (15, _)] [(6, _), (8, _), (10, _), (14, _)] (AllL.cons_ (rfl) (AllL.cons_ (rfl) (AllL.cons_ (rfl) (AllL.cons_ (rfl) (AllL.cons_ (rfl) trivial))))) (AllL.cons_ (rfl) (AllL.cons_ (rfl) (AllL.cons_ (rfl) (AllL.cons_ (rfl) trivial)))) ?_
            exact hKc3 _ _ _ ⟨0, rfl, rfl, rfl, by omega⟩
          · rintro m fr H ⟨i, rfl, rfl, rfl, hi⟩ Kc3 hKc3
            refine At.seq ?_
            refine At.seq ?_
            refine At.region ?_
            refine At.p (some 88) (P_move rfl rfl) ?_
            refine At.p (some 89) (P_cmp rfl rfl rfl rfl rfl rfl) ?_
            refine At.nil ?_
            refine At.next ?_
            refine At.cond rfl (fun h89 => ?_) (fun h89 => ?_)
            · -- cond 89 t
              have hlt : i < 64 := by simp at h89; omega
              have hR20 : (rN 20 (initS key count nonce)).length = 16 := by rw [rN_len]; exact hI
              have hO : (outTo (mixN 10 (initS key count nonce)) (initS key count nonce) i).length = 64 := outTo_len hi
              refine At.skip ?_
              refine At.next ?_
              refine At.seq ?_
              refine At.block ?_
              refine At.draws 16 [] [.q false [0, 1, 2, 3, 4, 5, 6, 7, 8, 9, 10, 11, 12, 13, 14, 15]] (by kernel_rfl) (by kernel_rfl) ?_
              refine At.wp (some 92) (P_move rfl rfl) ?_
              refine At.wp (some 93) (P_move rfl rfl) ?_
              refine At.wp (some 94) (P_quo_i rfl rfl rfl (by omega) (by omega) (by first | decide | omega)) ?_
              refine At.wp (some 95) (P_indexAddr_arr1 (j := i / 4) rfl Try.underlying60 sz29 rfl rfl (by omega) (by omega)) ?_
              refine At.wq (some 96) (Q_loadM (k := 8) (0#64) rfl rfl Try.underlying29 rfl rfl (by first | omega | (simp <;> omega))) ?_
              refine At.wp (some 97) (P_move rfl rfl) ?_
              refine At.wp (some 98) (P_quo_i rfl rfl rfl (by omega) (by omega) (by first | decide | omega)) ?_
              refine At.wp (some 99) (P_indexAddr_arr1 (j := i / 4) rfl Try.underlying60 sz29 rfl rfl (by omega) (by omega)) ?_
              refine At.wq (some 100) (Q_loadM (k := 10) (0#64) rfl rfl Try.underlying29 rfl rfl (by first | omega | (simp <;> omega))) ?_
              refine At.wp (some 101) (P_add_w UK.u64 rfl rfl rfl) ?_
              refine At.wcV (some 102) [] (vs := [_]) rfl en31 rfl V0 (r_cut _) ?_
              refine At.wp (some 103) (P_move rfl rfl) ?_
              refine At.wp (some 104) (P_rem_i rfl rfl rfl (by omega) (by first | decide | omega)) ?_
              refine At.wp (some 105) (P_mul_i rfl rfl rfl (by omega)) ?_
              refine At.wp (some 106) (P_shr_w UK.u64 (n := 64) rfl rfl rfl (by first | decide | omega)) ?_
              refine At.wp (some 107) (P_conv_ww UK.u8 (m := 64) rfl Try.underlying29 Try.underlying5 rfl) ?_
              refine At.wqn ?_
              refine At.wt rfl ?_
              refine At.p (some 108) (P_indexAddr_arr1 rfl Try.underlying26 sz5 rfl rfl rfl (by omega)) ?_
              refine At.s (S_storeM none (f := u8V) (k := 14) rfl rfl rfl sz5 rfl rfl rfl (by first | omega | (simp <;> omega)) ?_)
              refine At.nil ?_
              refine At.inb_n ?_
              refine At.next ?_
              refine At.region ?_
              refine At.p (some 90) (P_move rfl rfl) ?_
              refine At.p (some 91) (P_add_i rfl rfl rfl (by omega)) ?_
              refine At.p (some 15) (P_assign rfl rfl) ?_
              refine At.nil ?_
              refine At.next ?_
              refine At.to [(6, _), (8, _), (10, _), (14, _), (15, _)] [(6, _), (8, _), (10, _), (14, ⟨true, b14, 0, 26, (outTo (mixN 10 (initS key count nonce)) (initS key count nonce) (i + 1)).map u8V, 0⟩)] (AllL.cons_ (rfl) (AllL.cons_ (rfl) (AllL.cons_ (rfl) (AllL.cons_ (rfl) (AllL.cons_ (rfl) trivial))))) (AllL.cons_ (rfl) (AllL.cons_ (rfl) (AllL.cons_ (rfl) (AllL.cons_ (congrArg (fun l => some (⟨true, b14, 0, 26, List.map u8V l, 0⟩ : Row)) (by rw [out_ref, outTo_set hlt])) trivial)))) ?_
              exact hKc3 _ _ _ (by omega) ⟨i + 1, rfl, rfl, rfl, by omega⟩
            · -- cond 89 f
              obtain rfl : i = 64 := by simp at h89; omega
              have hO : (outTo (mixN 10 (initS key count nonce)) (initS key count nonce) 64).length = 64 := outTo_len hi
              refine At.exit ?_
              refine At.thn_e ?_
              refine At.thn_e ?_
              refine At.inb_hit ?_
              refine At.next ?_
              refine At.seq ?_
              refine At.region ?_
              refine At.q (some 109) (Q_loadA (k := 14) rfl rfl Try.underlying26 rfl sz26 (by first | omega | (simp <;> omega)) rfl) ?_
              refine At.s (S_storeA none (k := 6) (vs := _) rfl rfl rfl (by first | (rw [sz26]; simp <;> omega) | exact sz26) rfl (by first | (intro u hu; obtain ⟨z, _, rfl⟩ := List.mem_map.1 hu; rfl) | simp [Value.oneCell']) (by first | (simp; done) | (intro h; have h2 := congrArg List.length h; simp only [List.length_map, List.length_nil] at h2; omega) | (intro h; cases h)) rfl (by first | omega | (simp <;> omega) | rfl | (simp [*]; done)) ?_)
              refine At.nil ?_
              refine At.next ?_
              refine At.ret ?_
              refine At.giveV (.inl rfl) [] (rows' := []) (ResV.cellA (k := 6) rfl rfl Try.underlying26 rfl sz26 ((List.length_map u8V).trans hO) rfl) rfl (by simp) (by simp) ?_
              exact ⟨by simp [outTo, blockS, aggB], rfl⟩
end Go.Proofs.Ytkdkpjnlknofeaa
