import Derived.Test.YtdkeadfhejkidaaXS1
namespace Go.Proofs.Ytdkeadfhejkidaa
set_option maxRecDepth 20000
set_option linter.unusedVariables false
set_option linter.unusedSimpArgs false
open Go.SE Go.RowKit
/-! lanes: many numbers of 32 bits side by side, 64 bits a lane -/
def pack : List Nat → Nat
  | [] => 0
  | x :: l => 2 ^ 64 * pack l + x
def Lo (l : List Nat) : Prop := ∀ x ∈ l, x < 2 ^ 64
theorem lane_op (f : Bool → Bool → Bool) (g : Nat → Nat → Nat) (hg : ∀ a b i, (g a b).testBit i = f (a.testBit i) (b.testBit i)) {a b x y : Nat} (hx : x < 2 ^ 64) (hy : y < 2 ^ 64) (hxy : g x y < 2 ^ 64) :
    g (2 ^ 64 * a + x) (2 ^ 64 * b + y) = 2 ^ 64 * g a b + g x y := by
  refine Nat.eq_of_testBit_eq fun i => ?_
  rw [hg, Nat.testBit_two_pow_mul_add _ hx, Nat.testBit_two_pow_mul_add _ hy, Nat.testBit_two_pow_mul_add _ hxy]
  split
  · rw [hg]
  · rw [hg]
theorem pack_and : ∀ {l m : List Nat}, l.length = m.length → Lo l → Lo m → pack l &&& pack m = pack (List.zipWith (· &&& ·) l m)
  | [], [], _, _, _ => rfl
  | x :: l, y :: m, h, hl, hm => by
    have hx := hl x List.mem_cons_self
    have hy := hm y List.mem_cons_self
    rw [pack, pack, lane_op (· && ·) (· &&& ·) Nat.testBit_and hx hy (Nat.and_lt_two_pow _ hy), pack_and (by simpa using h) (fun z hz => hl z (List.mem_cons_of_mem _ hz)) (fun z hz => hm z (List.mem_cons_of_mem _ hz))]
    rfl
theorem pack_xor : ∀ {l m : List Nat}, l.length = m.length → Lo l → Lo m → pack l ^^^ pack m = pack (List.zipWith (· ^^^ ·) l m)
  | [], [], _, _, _ => rfl
  | x :: l, y :: m, h, hl, hm => by
    have hx := hl x List.mem_cons_self
    have hy := hm y List.mem_cons_self
    rw [pack, pack, lane_op Bool.xor (· ^^^ ·) Nat.testBit_xor hx hy (Nat.xor_lt_two_pow hx hy), pack_xor (by simpa using h) (fun z hz => hl z (List.mem_cons_of_mem _ hz)) (fun z hz => hm z (List.mem_cons_of_mem _ hz))]
    rfl
theorem pack_add : ∀ {l m : List Nat}, l.length = m.length → pack l + pack m = pack (List.zipWith (· + ·) l m)
  | [], [], _ => rfl
  | x :: l, y :: m, h => by
    rw [pack, pack, List.zipWith_cons_cons, pack, ← pack_add (by simpa using h)]
    omega
theorem pack_mul (c : Nat) : ∀ (l : List Nat), pack l * c = pack (l.map (· * c))
  | [] => Nat.zero_mul c
  | x :: l => by
    rw [pack, List.map_cons, pack, ← pack_mul c l, Nat.add_mul, Nat.mul_assoc]
def msk (n : Nat) : Nat := pack (List.replicate n (2 ^ 32 - 1))
theorem shr_cons {n x p k : Nat} (hx : x < 2 ^ 64) (hk : k ≤ 32) : (2 ^ 64 * p + x) >>> k &&& (2 ^ 64 * msk n + (2 ^ 32 - 1)) = 2 ^ 64 * (p >>> k &&& msk n) + (x >>> k) % 2 ^ 32 := by
  refine Nat.eq_of_testBit_eq fun i => ?_
  have h1 : (x >>> k) % 2 ^ 32 < 2 ^ 64 := Nat.lt_of_lt_of_le (Nat.mod_lt _ (by decide)) (by decide)
  rw [Nat.testBit_and, Nat.testBit_shiftRight, Nat.testBit_two_pow_mul_add _ hx, Nat.testBit_two_pow_mul_add _ (show 2 ^ 32 - 1 < 2 ^ 64 by decide), Nat.testBit_two_pow_mul_add _ h1, Nat.testBit_mod_two_pow, Nat.testBit_two_pow_sub_one, Nat.testBit_shiftRight]
  by_cases h : i < 64
  · rw [if_pos h, if_pos h]
    by_cases h2 : i < 32
    · simp [h2, show k + i < 64 by omega]
    · simp [h2]
  · rw [if_neg h, if_neg h, Nat.testBit_and, Nat.testBit_shiftRight]
    rw [if_neg (show ¬ k + i < 64 by omega), show k + i - 64 = k + (i - 64) by omega]
theorem pack_shr {k : Nat} (hk : k ≤ 32) : ∀ {l : List Nat}, Lo l → (pack l) >>> k &&& msk l.length = pack (l.map fun x => (x >>> k) % 2 ^ 32)
  | [], _ => by simp [pack, msk]
  | x :: l, hl => by
    have h := pack_shr hk (l := l) fun z hz => hl z (List.mem_cons_of_mem _ hz)
    rw [pack, List.map_cons, pack, ← h, ← shr_cons (hl x List.mem_cons_self) hk]
    rfl
theorem rot_nat (x : BitVec 32) {n : Nat} (h0 : 0 < n) (h1 : n < 32) : (rotR x n).toNat = ((x.toNat * (2 ^ 32 + 1)) >>> n) % 2 ^ 32 := by
  refine Nat.eq_of_testBit_eq fun i => ?_
  rw [show x.toNat * (2 ^ 32 + 1) = 2 ^ 32 * x.toNat + x.toNat by omega, Nat.testBit_mod_two_pow, Nat.testBit_shiftRight, Nat.testBit_two_pow_mul_add _ x.isLt]
  unfold rotR
  rw [BitVec.toNat_or, Nat.testBit_or, BitVec.toNat_shiftLeft, Nat.testBit_mod_two_pow, Nat.testBit_shiftLeft, BitVec.toNat_ushiftRight, Nat.testBit_shiftRight]
  by_cases h : i < 32
  · by_cases h2 : n + i < 32
    · simp [h, h2, show ¬ (32 - n ≤ i) by omega]
    · rw [if_neg h2, show i - (32 - n) = n + i - 32 by omega]
      simp [h, show 32 - n ≤ i by omega, Nat.testBit_lt_two_pow (Nat.lt_of_lt_of_le x.isLt (Nat.pow_le_pow_right (by decide) (by omega : 32 ≤ n + i)))]
  · simp [h, Nat.testBit_lt_two_pow (Nat.lt_of_lt_of_le x.isLt (Nat.pow_le_pow_right (by decide) (by omega : 32 ≤ n + i)))]
def seq {α : Type} (x : Nat) (f : Nat → α) : α := Nat.rec (f 0) (fun n _ => f (Nat.succ n)) x
theorem seq_eq {α : Type} (x : Nat) (f : Nat → α) : seq x f = f x := by cases x <;> rfl
def ro (M x n : Nat) : Nat := Nat.land (Nat.shiftRight (Nat.mul x 4294967297) n) M
def sr (M x n : Nat) : Nat := Nat.land (Nat.shiftRight x n) M
def s0L (M x : Nat) : Nat := Nat.xor (Nat.xor (ro M x 7) (ro M x 18)) (sr M x 3)
def s1L (M x : Nat) : Nat := Nat.xor (Nat.xor (ro M x 17) (ro M x 19)) (sr M x 10)
def b1L (M x : Nat) : Nat := Nat.xor (Nat.xor (ro M x 6) (ro M x 11)) (ro M x 25)
def b0L (M x : Nat) : Nat := Nat.xor (Nat.xor (ro M x 2) (ro M x 13)) (ro M x 22)
def chL (e f g : Nat) : Nat := Nat.xor (Nat.land (Nat.xor f g) e) g
def maL (a b c : Nat) : Nat := Nat.xor (Nat.land a (Nat.xor b c)) (Nat.land b c)
def goL (M O : Nat) : List Nat → (w0 w1 w2 w3 w4 w5 w6 w7 w8 w9 w10 w11 w12 w13 w14 w15 a b c d e f g h : Nat) → List Nat
  | [], _, _, _, _, _, _, _, _, _, _, _, _, _, _, _, _, a, b, c, d, e, f, g, h => [a, b, c, d, e, f, g, h]
  | k :: ks, w0, w1, w2, w3, w4, w5, w6, w7, w8, w9, w10, w11, w12, w13, w14, w15, a, b, c, d, e, f, g, h =>
    seq (Nat.add (Nat.add (Nat.add (Nat.add h (b1L M e)) (chL e f g)) (Nat.mul k O)) w0) fun t =>
    seq (Nat.land (Nat.add t (Nat.add (b0L M a) (maL a b c))) M) fun x =>
    seq (Nat.land (Nat.add d t) M) fun y =>
    seq (Nat.land (Nat.add (Nat.add (Nat.add w0 w9) (s0L M w1)) (s1L M w14)) M) fun z =>
    goL M O ks w1 w2 w3 w4 w5 w6 w7 w8 w9 w10 w11 w12 w13 w14 w15 z x a b c y e f g

/-! the same over words -/
def g0 (x : BitVec 32) : BitVec 32 := rotR x 7 ^^^ rotR x 18 ^^^ x >>> 3
def g1 (x : BitVec 32) : BitVec 32 := rotR x 17 ^^^ rotR x 19 ^^^ x >>> 10
def goB : List (BitVec 32) → (w0 w1 w2 w3 w4 w5 w6 w7 w8 w9 w10 w11 w12 w13 w14 w15 a b c d e f g h : BitVec 32) → List (BitVec 32)
  | [], _, _, _, _, _, _, _, _, _, _, _, _, _, _, _, _, a, b, c, d, e, f, g, h => [a, b, c, d, e, f, g, h]
  | k :: ks, w0, w1, w2, w3, w4, w5, w6, w7, w8, w9, w10, w11, w12, w13, w14, w15, a, b, c, d, e, f, g, h =>
    goB ks w1 w2 w3 w4 w5 w6 w7 w8 w9 w10 w11 w12 w13 w14 w15 (w0 + w9 + g0 w1 + g1 w14) (h + (rotR e 6 ^^^ rotR e 11 ^^^ rotR e 25) + chS e f g + k + w0 + ((rotR a 2 ^^^ rotR a 13 ^^^ rotR a 22) + majS a b c)) a b c (d + (h + (rotR e 6 ^^^ rotR e 11 ^^^ rotR e 25) + chS e f g + k + w0)) e f g
def PN (n : Nat) (f : Nat → Nat) : Nat := pack ((List.range n).map f)
def PK (n : Nat) (f : Nat → BitVec 32) : Nat := PN n fun j => (f j).toNat
theorem lo_map (n : Nat) {f : Nat → Nat} (h : ∀ j, f j < 2 ^ 64) : Lo ((List.range n).map f) := by
  intro x hx
  obtain ⟨j, _, rfl⟩ := List.mem_map.1 hx
  exact h j
theorem lo32 (f : Nat → BitVec 32) (j : Nat) : (f j).toNat < 2 ^ 64 := Nat.lt_of_lt_of_le (f j).isLt (by decide)
theorem zip_map {α β γ δ : Type} (f : β → γ → δ) (g : α → β) (h : α → γ) : ∀ l : List α, List.zipWith f (l.map g) (l.map h) = l.map fun x => f (g x) (h x)
  | [] => rfl
  | x :: l => by rw [List.map_cons, List.map_cons, List.zipWith_cons_cons, zip_map f g h l, List.map_cons]
theorem PN_add (n : Nat) (f g : Nat → Nat) : Nat.add (PN n f) (PN n g) = PN n fun j => f j + g j := by
  show PN n f + PN n g = _
  rw [PN, PN, pack_add (by simp), zip_map]
  rfl
theorem PN_mul (n c : Nat) (f : Nat → Nat) : Nat.mul c (PN n f) = PN n fun j => f j * c := by
  show c * PN n f = _
  rw [Nat.mul_comm, PN, pack_mul, List.map_map]
  rfl
theorem PN_mul' (n c : Nat) (f : Nat → Nat) : Nat.mul (PN n f) c = PN n fun j => f j * c := by
  show PN n f * c = _
  rw [PN, pack_mul, List.map_map]
  rfl
theorem PN_and (n : Nat) {f g : Nat → Nat} (hf : ∀ j, f j < 2 ^ 64) (hg : ∀ j, g j < 2 ^ 64) : Nat.land (PN n f) (PN n g) = PN n fun j => f j &&& g j := by
  show PN n f &&& PN n g = _
  rw [PN, PN, pack_and (by simp) (lo_map n hf) (lo_map n hg), zip_map]
  rfl
theorem PN_xor (n : Nat) {f g : Nat → Nat} (hf : ∀ j, f j < 2 ^ 64) (hg : ∀ j, g j < 2 ^ 64) : Nat.xor (PN n f) (PN n g) = PN n fun j => f j ^^^ g j := by
  show PN n f ^^^ PN n g = _
  rw [PN, PN, pack_xor (by simp) (lo_map n hf) (lo_map n hg), zip_map]
  rfl
theorem PN_shr (n : Nat) {k : Nat} (hk : k ≤ 32) {f : Nat → Nat} (hf : ∀ j, f j < 2 ^ 64) : Nat.land (Nat.shiftRight (PN n f) k) (msk n) = PN n fun j => (f j >>> k) % 2 ^ 32 := by
  have h := pack_shr hk (lo_map n hf)
  rw [List.length_map, List.length_range, List.map_map] at h
  exact h
theorem PN_mod (n : Nat) {f : Nat → Nat} (hf : ∀ j, f j < 2 ^ 64) : Nat.land (PN n f) (msk n) = PN n fun j => f j % 2 ^ 32 := by
  have h := PN_shr n (k := 0) (by decide) hf
  exact h
theorem PK_xor (n : Nat) (f g : Nat → BitVec 32) : Nat.xor (PK n f) (PK n g) = PK n fun j => f j ^^^ g j := by
  rw [PK, PK, PN_xor n (lo32 f) (lo32 g)]
  exact congrArg (PN n) (funext fun j => (BitVec.toNat_xor _ _).symm)
theorem PK_and (n : Nat) (f g : Nat → BitVec 32) : Nat.land (PK n f) (PK n g) = PK n fun j => f j &&& g j := by
  rw [PK, PK, PN_and n (lo32 f) (lo32 g)]
  exact congrArg (PN n) (funext fun j => (BitVec.toNat_and _ _).symm)
theorem PK_ro (n : Nat) (f : Nat → BitVec 32) {k : Nat} (h0 : 0 < k) (h1 : k < 32) : ro (msk n) (PK n f) k = PK n fun j => rotR (f j) k := by
  rw [ro, PK, PN_mul', PN_shr n (Nat.le_of_lt h1) fun j => by have := (f j).isLt; omega]
  exact congrArg (PN n) (funext fun j => (rot_nat (f j) h0 h1).symm)
theorem PK_sr (n : Nat) (f : Nat → BitVec 32) {k : Nat} (h1 : k < 32) : sr (msk n) (PK n f) k = PK n fun j => f j >>> k := by
  rw [sr, PK, PN_shr n (Nat.le_of_lt h1) (lo32 f)]
  refine congrArg (PN n) (funext fun j => ?_)
  rw [BitVec.toNat_ushiftRight]
  exact Nat.mod_eq_of_lt (Nat.lt_of_le_of_lt (by rw [Nat.shiftRight_eq_div_pow]; exact Nat.div_le_self _ _) (f j).isLt)
theorem PK_s0 (n : Nat) (f : Nat → BitVec 32) : s0L (msk n) (PK n f) = PK n fun j => g0 (f j) := by
  rw [s0L, PK_ro n f (by decide) (by decide), PK_ro n f (by decide) (by decide), PK_sr n f (by decide), PK_xor, PK_xor]
  rfl
theorem PK_s1 (n : Nat) (f : Nat → BitVec 32) : s1L (msk n) (PK n f) = PK n fun j => g1 (f j) := by
  rw [s1L, PK_ro n f (by decide) (by decide), PK_ro n f (by decide) (by decide), PK_sr n f (by decide), PK_xor, PK_xor]
  rfl
theorem PK_b1 (n : Nat) (f : Nat → BitVec 32) : b1L (msk n) (PK n f) = PK n fun j => rotR (f j) 6 ^^^ rotR (f j) 11 ^^^ rotR (f j) 25 := by
  rw [b1L, PK_ro n f (by decide) (by decide), PK_ro n f (by decide) (by decide), PK_ro n f (by decide) (by decide), PK_xor, PK_xor]
theorem PK_b0 (n : Nat) (f : Nat → BitVec 32) : b0L (msk n) (PK n f) = PK n fun j => rotR (f j) 2 ^^^ rotR (f j) 13 ^^^ rotR (f j) 22 := by
  rw [b0L, PK_ro n f (by decide) (by decide), PK_ro n f (by decide) (by decide), PK_ro n f (by decide) (by decide), PK_xor, PK_xor]
theorem ch_eq (e f g : BitVec 32) : ((f ^^^ g) &&& e) ^^^ g = chS e f g := by
  unfold chS
  apply BitVec.eq_of_getLsbD_eq
  intro i hi
  simp only [BitVec.getLsbD_xor, BitVec.getLsbD_and, BitVec.getLsbD_or, BitVec.getLsbD_not, hi, decide_true, Bool.true_and]
  cases e.getLsbD i <;> cases f.getLsbD i <;> cases g.getLsbD i <;> rfl
theorem ma_eq (a b c : BitVec 32) : (a &&& (b ^^^ c)) ^^^ (b &&& c) = majS a b c := by
  unfold majS
  apply BitVec.eq_of_getLsbD_eq
  intro i hi
  simp only [BitVec.getLsbD_xor, BitVec.getLsbD_and, BitVec.getLsbD_or]
  cases a.getLsbD i <;> cases b.getLsbD i <;> cases c.getLsbD i <;> rfl
theorem PK_ch (n : Nat) (e f g : Nat → BitVec 32) : chL (PK n e) (PK n f) (PK n g) = PK n fun j => chS (e j) (f j) (g j) := by
  rw [chL, PK_xor, PK_and, PK_xor]
  exact congrArg (PK n) (funext fun j => ch_eq _ _ _)
theorem PK_ma (n : Nat) (a b c : Nat → BitVec 32) : maL (PK n a) (PK n b) (PK n c) = PK n fun j => majS (a j) (b j) (c j) := by
  rw [maL, PK_xor, PK_and, PK_and, PK_xor]
  exact congrArg (PK n) (funext fun j => ma_eq _ _ _)
def ones (n : Nat) : Nat := PN n fun _ => 1
theorem goL_eq (n : Nat) : ∀ (ks : List (BitVec 32)) (w0 w1 w2 w3 w4 w5 w6 w7 w8 w9 w10 w11 w12 w13 w14 w15 a b c d e f g h : Nat → BitVec 32), goL (msk n) (ones n) (ks.map BitVec.toNat) (PK n w0) (PK n w1) (PK n w2) (PK n w3) (PK n w4) (PK n w5) (PK n w6) (PK n w7) (PK n w8) (PK n w9) (PK n w10) (PK n w11) (PK n w12) (PK n w13) (PK n w14) (PK n w15) (PK n a) (PK n b) (PK n c) (PK n d) (PK n e) (PK n f) (PK n g) (PK n h) = (List.range 8).map fun i => PK n fun j => (goB ks (w0 j) (w1 j) (w2 j) (w3 j) (w4 j) (w5 j) (w6 j) (w7 j) (w8 j) (w9 j) (w10 j) (w11 j) (w12 j) (w13 j) (w14 j) (w15 j) (a j) (b j) (c j) (d j) (e j) (f j) (g j) (h j)).getD i 0#32
  | [], w0, w1, w2, w3, w4, w5, w6, w7, w8, w9, w10, w11, w12, w13, w14, w15, a, b, c, d, e, f, g, h => rfl
  | k :: ks, w0, w1, w2, w3, w4, w5, w6, w7, w8, w9, w10, w11, w12, w13, w14, w15, a, b, c, d, e, f, g, h => by
    rw [List.map_cons, goL, seq_eq, seq_eq, seq_eq, seq_eq]
    rw [PK_b1, PK_ch, PK_b0, PK_ma, PK_s0, PK_s1]
    rw [ones, PN_mul]
    unfold PK
    simp only [PN_add]
    rw [PN_mod n (fun j => by have h1 := (h j).isLt; have h2 := (rotR (e j) 6 ^^^ rotR (e j) 11 ^^^ rotR (e j) 25).isLt; have h3 := (chS (e j) (f j) (g j)).isLt; have h4 := k.isLt; have h5 := (w0 j).isLt; have h6 := (rotR (a j) 2 ^^^ rotR (a j) 13 ^^^ rotR (a j) 22).isLt; have h7 := (majS (a j) (b j) (c j)).isLt; omega)]
    rw [PN_mod n (fun j => by have h1 := (h j).isLt; have h2 := (rotR (e j) 6 ^^^ rotR (e j) 11 ^^^ rotR (e j) 25).isLt; have h3 := (chS (e j) (f j) (g j)).isLt; have h4 := k.isLt; have h5 := (w0 j).isLt; have h6 := (d j).isLt; omega)]
    rw [PN_mod n (fun j => by have h1 := (w0 j).isLt; have h2 := (w9 j).isLt; have h3 := (g0 (w1 j)).isLt; have h4 := (g1 (w14 j)).isLt; omega)]
    have e1 : (fun j => ((h j).toNat + (rotR (e j) 6 ^^^ rotR (e j) 11 ^^^ rotR (e j) 25).toNat + (chS (e j) (f j) (g j)).toNat + 1 * k.toNat + (w0 j).toNat + ((rotR (a j) 2 ^^^ rotR (a j) 13 ^^^ rotR (a j) 22).toNat + (majS (a j) (b j) (c j)).toNat)) % 2 ^ 32) = fun j => (h j + (rotR (e j) 6 ^^^ rotR (e j) 11 ^^^ rotR (e j) 25) + chS (e j) (f j) (g j) + k + w0 j + ((rotR (a j) 2 ^^^ rotR (a j) 13 ^^^ rotR (a j) 22) + majS (a j) (b j) (c j))).toNat := funext fun j => by
      simp only [BitVec.toNat_add, Nat.one_mul]
      omega
    have e2 : (fun j => ((d j).toNat + ((h j).toNat + (rotR (e j) 6 ^^^ rotR (e j) 11 ^^^ rotR (e j) 25).toNat + (chS (e j) (f j) (g j)).toNat + 1 * k.toNat + (w0 j).toNat)) % 2 ^ 32) = fun j => (d j + (h j + (rotR (e j) 6 ^^^ rotR (e j) 11 ^^^ rotR (e j) 25) + chS (e j) (f j) (g j) + k + w0 j)).toNat := funext fun j => by
      simp only [BitVec.toNat_add, Nat.one_mul]
      omega
    have e3 : (fun j => ((w0 j).toNat + (w9 j).toNat + (g0 (w1 j)).toNat + (g1 (w14 j)).toNat) % 2 ^ 32) = fun j => (w0 j + w9 j + g0 (w1 j) + g1 (w14 j)).toNat := funext fun j => by
      simp only [BitVec.toNat_add]
      omega
    rw [e1, e2, e3]
    exact goL_eq n ks w1 w2 w3 w4 w5 w6 w7 w8 w9 w10 w11 w12 w13 w14 w15 (fun j => w0 j + w9 j + g0 (w1 j) + g1 (w14 j)) (fun j => h j + (rotR (e j) 6 ^^^ rotR (e j) 11 ^^^ rotR (e j) 25) + chS (e j) (f j) (g j) + k + w0 j + ((rotR (a j) 2 ^^^ rotR (a j) 13 ^^^ rotR (a j) 22) + majS (a j) (b j) (c j))) a b c (fun j => d j + (h j + (rotR (e j) 6 ^^^ rotR (e j) 11 ^^^ rotR (e j) 25) + chS (e j) (f j) (g j) + k + w0 j)) e f g

/-! the rounds are those of the sum -/
def Wf (b : List (BitVec 8)) (i : Nat) : BitVec 32 :=
  if i < 16 then (wTo b 64).getD i 0#32 else Wf b (i - 16) + Wf b (i - 7) + g0 (Wf b (i - 15)) + g1 (Wf b (i - 2))
termination_by i
decreasing_by all_goals omega
theorem Wf_lo (b : List (BitVec 8)) {i : Nat} (h : i < 16) : Wf b i = (wTo b 64).getD i 0#32 := by rw [Wf, if_pos h]
theorem Wf_hi (b : List (BitVec 8)) (i : Nat) : Wf b (i + 16) = Wf b i + Wf b (i + 9) + g0 (Wf b (i + 1)) + g1 (Wf b (i + 14)) := by
  rw [Wf, if_neg (by omega), show i + 16 - 16 = i by omega, show i + 16 - 7 = i + 9 by omega, show i + 16 - 15 = i + 1 by omega, show i + 16 - 2 = i + 14 by omega]
theorem sTo_Wf (b : List (BitVec 8)) : ∀ k, k ≤ 48 → ∀ i, i < 16 + k → (sTo b k).getD i 0#32 = Wf b i
  | 0, _, i, h => (Wf_lo b (by omega)).symm
  | k + 1, hk, i, h => by
    have hl : (sTo b k).length = 64 := sTo_len b k
    rw [sTo, List.getD_eq_getElem?_getD, List.getElem?_set]
    by_cases e : 16 + k = i
    · subst e
      rw [if_pos rfl, if_pos (by omega)]
      rw [show 16 + k = k + 16 by omega, Wf_hi, sprAt, show k + 16 - 16 = k by omega, show k + 16 - 7 = k + 9 by omega, show k + 16 - 15 = k + 1 by omega, show k + 16 - 2 = k + 14 by omega]
      rw [sTo_Wf b k (by omega) k (by omega), sTo_Wf b k (by omega) (k + 9) (by omega), sTo_Wf b k (by omega) (k + 1) (by omega), sTo_Wf b k (by omega) (k + 14) (by omega)]
      rfl
    · rw [if_neg e, ← List.getD_eq_getElem?_getD]
      exact sTo_Wf b k (by omega) i (by omega)
theorem spread_Wf (b : List (BitVec 8)) {i : Nat} (h : i < 64) : (spreadS b).getD i 0#32 = Wf b i := sTo_Wf b 48 (by decide) i (by omega)
theorem KK_len : KK.length = 64 := rfl
theorem goB_eq (b : List (BitVec 8)) (s : List (BitVec 32)) (hs : s.length = 8) : ∀ (n i : Nat), i + n = 64 → goB (KK.drop i) (Wf b i) (Wf b (i + 1)) (Wf b (i + 2)) (Wf b (i + 3)) (Wf b (i + 4)) (Wf b (i + 5)) (Wf b (i + 6)) (Wf b (i + 7)) (Wf b (i + 8)) (Wf b (i + 9)) (Wf b (i + 10)) (Wf b (i + 11)) (Wf b (i + 12)) (Wf b (i + 13)) (Wf b (i + 14)) (Wf b (i + 15)) ((vTo KK (spreadS b) s i).getD 0 0#32) ((vTo KK (spreadS b) s i).getD 1 0#32) ((vTo KK (spreadS b) s i).getD 2 0#32) ((vTo KK (spreadS b) s i).getD 3 0#32) ((vTo KK (spreadS b) s i).getD 4 0#32) ((vTo KK (spreadS b) s i).getD 5 0#32) ((vTo KK (spreadS b) s i).getD 6 0#32) ((vTo KK (spreadS b) s i).getD 7 0#32) = vTo KK (spreadS b) s 64
  | 0, i, h => by
    obtain rfl : i = 64 := by omega
    rw [List.drop_eq_nil_of_le (by rw [KK_len]; omega)]
    obtain ⟨a, b', c, d, e, f, g, h', hv⟩ := eight (vTo_len (K := KK) (W := spreadS b) hs 64)
    rw [hv]
    rfl
  | n + 1, i, h => by
    rw [List.drop_eq_getElem_cons (by rw [KK_len]; omega), goB, ← Wf_hi]
    have e := goB_eq b s hs n (i + 1) (by omega)
    simp only [Nat.add_assoc, Nat.reduceAdd] at e
    rw [← e, vTo, rnd, spread_Wf b (show i < 64 by omega), show KK.getD i 0#32 = KK[i]'(by rw [KK_len]; omega) by rw [List.getD_eq_getElem?_getD, List.getElem?_eq_getElem]; rfl]
    rfl

/-! texts of one byte -/
def byC (k p : Nat) : Nat := if p < k then 1 else 0
def byK (k p : Nat) : Nat := if p < k then 0 else if p = k then 128 else if p < k + 1 + padZ k then 0 else (8 * k) / 2 ^ (8 * (7 - (p - (k + 1 + padZ k)))) % 256
theorem by_at {k p : Nat} (b : BitVec 8) (hk : k ≤ 200) (hp : p < (padS (List.replicate k b)).length) : ((padS (List.replicate k b)).getD p 0#8).toNat = byC k p * b.toNat + byK k p := by
  rw [padS_len, List.length_replicate] at hp
  unfold padS byC byK
  rw [List.length_replicate, List.getD_eq_getElem?_getD, List.append_assoc, List.append_assoc, List.getElem?_append, List.length_replicate]
  by_cases h1 : p < k
  · rw [if_pos h1, if_pos h1, if_pos h1, List.getElem?_replicate, if_pos h1]
    simp
  · rw [if_neg h1, if_neg h1, if_neg h1, List.getElem?_append]
    by_cases h2 : p = k
    · subst h2
      simp
    · rw [if_neg h2, if_neg (by simp; omega), List.getElem?_append, List.length_replicate]
      simp only [List.length_cons, List.length_nil]
      by_cases h3 : p < k + 1 + padZ k
      · rw [if_pos h3, if_pos (by omega), List.getElem?_replicate, if_pos (by omega)]
        simp
      · rw [if_neg h3, if_neg (by omega), lenB, List.getElem?_map, List.getElem?_range (by omega), show p - k - (0 + 1) - padZ k = p - (k + 1 + padZ k) by omega]
        show ((bits8 k >>> (8 * (7 - (p - (k + 1 + padZ k))))).setWidth 8).toNat = _
        have e : (bits8 k).toNat = 8 * k := by
          unfold bits8
          rw [BitVec.toNat_mul, BitVec.toNat_ofInt]
          simp
          omega
        rw [BitVec.toNat_setWidth, BitVec.toNat_ushiftRight, e, Nat.shiftRight_eq_div_pow]
        simp
def Wd4 (b : List (BitVec 8)) (i : Nat) : Nat → BitVec 32
  | 0 => 0#32
  | j + 1 => Wd4 b i j <<< 8 ||| (b.getD (4 * i + j) 0#8).setWidth 32
theorem wTo_at (b : List (BitVec 8)) : ∀ (n i : Nat), n ≤ 64 → i < 16 → (wTo b n).getD i 0#32 = Wd4 b i (min (n - 4 * i) 4)
  | 0, i, _, hi => by
    rw [wTo, List.getD_eq_getElem?_getD, List.getElem?_replicate, if_pos (by omega), show min (0 - 4 * i) 4 = 0 by omega]
    rfl
  | n + 1, i, hn, hi => by
    have hl := wTo_len b n
    rw [wTo, wStep, List.getD_eq_getElem?_getD, List.getElem?_set]
    by_cases e : n / 4 = i
    · rw [if_pos e, if_pos (by omega), e, wTo_at b n i (by omega) hi]
      rw [show min (n + 1 - 4 * i) 4 = min (n - 4 * i) 4 + 1 by omega, Wd4, show 4 * i + min (n - 4 * i) 4 = n by omega]
      rfl
    · rw [if_neg e, ← List.getD_eq_getElem?_getD, wTo_at b n i (by omega) hi]
      congr 1
      omega
theorem sh8 (x : BitVec 32) (y : BitVec 8) (h : x.toNat < 2 ^ 24) : (x <<< 8 ||| y.setWidth 32).toNat = x.toNat * 256 + y.toNat := by
  have hy := y.isLt
  rw [BitVec.toNat_or, BitVec.toNat_shiftLeft, BitVec.toNat_setWidth, Nat.mod_eq_of_lt (show y.toNat < 2 ^ 32 by omega), Nat.mod_eq_of_lt (show x.toNat <<< 8 < 2 ^ 32 by rw [Nat.shiftLeft_eq]; omega), ← Nat.shiftLeft_add_eq_or_of_lt (by omega : y.toNat < 2 ^ 8), Nat.shiftLeft_eq]
theorem Wd4_nat (b : List (BitVec 8)) (i : Nat) : (Wd4 b i 4).toNat = (((b.getD (4 * i) 0#8).toNat * 256 + (b.getD (4 * i + 1) 0#8).toNat) * 256 + (b.getD (4 * i + 2) 0#8).toNat) * 256 + (b.getD (4 * i + 3) 0#8).toNat := by
  have h0 := (b.getD (4 * i) 0#8).isLt
  have h1 := (b.getD (4 * i + 1) 0#8).isLt
  have h2 := (b.getD (4 * i + 2) 0#8).isLt
  have e1 : (Wd4 b i 1).toNat = (b.getD (4 * i) 0#8).toNat := by
    rw [Wd4, sh8 _ _ (by rw [Wd4]; decide), Wd4]
    simp
  have e2 : (Wd4 b i 2).toNat = (b.getD (4 * i) 0#8).toNat * 256 + (b.getD (4 * i + 1) 0#8).toNat := by
    rw [Wd4, sh8 _ _ (by rw [e1]; omega), e1]
  have e3 : (Wd4 b i 3).toNat = ((b.getD (4 * i) 0#8).toNat * 256 + (b.getD (4 * i + 1) 0#8).toNat) * 256 + (b.getD (4 * i + 2) 0#8).toNat := by
    rw [Wd4, sh8 _ _ (by rw [e2]; omega), e2]
  rw [Wd4, sh8 _ _ (by rw [e3]; omega), e3]
def cw (f : Nat → Nat → Nat) (k q : Nat) : Nat := ((f k (4 * q) * 256 + f k (4 * q + 1)) * 256 + f k (4 * q + 2)) * 256 + f k (4 * q + 3)
theorem word_at {k n i : Nat} (b : BitVec 8) (hk : k ≤ 200) (hi : i < 16) (hn : n < nB (List.replicate k b)) : (Wf (blk (List.replicate k b) n) i).toNat = b.toNat * cw byC k (16 * n + i) + 1 * cw byK k (16 * n + i) := by
  rw [Wf_lo _ hi, wTo_at _ 64 i (by decide) hi, show min (64 - 4 * i) 4 = 4 by omega, Wd4_nat]
  have hm := padS_mod (List.replicate k b)
  have e : ∀ j, j < 4 → ((blk (List.replicate k b) n).getD (4 * i + j) 0#8).toNat = byC k (4 * (16 * n + i) + j) * b.toNat + byK k (4 * (16 * n + i) + j) := fun j hj => by
    rw [← by_at b hk (by unfold nB at hn; omega), blk, List.getD_eq_getElem?_getD, List.getD_eq_getElem?_getD, List.getElem?_drop, show 64 * n + (4 * i + j) = 4 * (16 * n + i) + j by omega]
  have a0 := e 0 (by decide)
  have a1 := e 1 (by decide)
  have a2 := e 2 (by decide)
  have a3 := e 3 (by decide)
  simp only [Nat.add_zero] at a0
  rw [a0, a1, a2, a3, cw, cw]
  generalize b.toNat = x
  simp only [Nat.mul_add, Nat.add_mul, Nat.mul_comm x, Nat.mul_right_comm _ x]
  omega
def KN : List Nat := KK.map BitVec.toNat
def wdL (O B k q : Nat) : Nat := Nat.add (Nat.mul (cw byC k q) B) (Nat.mul (cw byK k q) O)
def bPN (n : Nat) : Nat := PN n fun j => (BitVec.ofNat 8 j).toNat
def txt (k j : Nat) : List (BitVec 8) := List.replicate k (BitVec.ofNat 8 j)
theorem wdL_eq (N : Nat) {k n i : Nat} (hk : k ≤ 200) (hi : i < 16) (hn : ∀ j, n < nB (txt k j)) : wdL (ones N) (bPN N) k (16 * n + i) = PK N fun j => Wf (blk (txt k j) n) i := by
  rw [wdL, bPN, ones, PN_mul, PN_mul, PN_add]
  exact congrArg (PN N) (funext fun j => (word_at _ hk hi (hn j)).symm)
def addL (M : Nat) : List Nat → List Nat → List Nat
  | x :: s, y :: v => seq (Nat.land (Nat.add x y) M) fun z => z :: addL M s v
  | _, _ => []
def blockL (M O B k n : Nat) : List Nat → List Nat
  | [a, b, c, d, e, f, g, h] =>
    seq (wdL O B k (16 * n)) fun w0 =>
    seq (wdL O B k (16 * n + 1)) fun w1 =>
    seq (wdL O B k (16 * n + 2)) fun w2 =>
    seq (wdL O B k (16 * n + 3)) fun w3 =>
    seq (wdL O B k (16 * n + 4)) fun w4 =>
    seq (wdL O B k (16 * n + 5)) fun w5 =>
    seq (wdL O B k (16 * n + 6)) fun w6 =>
    seq (wdL O B k (16 * n + 7)) fun w7 =>
    seq (wdL O B k (16 * n + 8)) fun w8 =>
    seq (wdL O B k (16 * n + 9)) fun w9 =>
    seq (wdL O B k (16 * n + 10)) fun w10 =>
    seq (wdL O B k (16 * n + 11)) fun w11 =>
    seq (wdL O B k (16 * n + 12)) fun w12 =>
    seq (wdL O B k (16 * n + 13)) fun w13 =>
    seq (wdL O B k (16 * n + 14)) fun w14 =>
    seq (wdL O B k (16 * n + 15)) fun w15 =>
    goL M O KN w0 w1 w2 w3 w4 w5 w6 w7 w8 w9 w10 w11 w12 w13 w14 w15 a b c d e f g h
  | _ => []
def hL (M O B k : Nat) : Nat → List Nat
  | 0 => (H0.map BitVec.toNat).map fun x => Nat.mul x O
  | n + 1 => addL M (hL M O B k n) (blockL M O B k n (hL M O B k n))
def fL (N : Nat) (f : Nat → List (BitVec 32)) : List Nat := (List.range 8).map fun i => PK N fun j => (f j).getD i 0#32
theorem addL_map (N : Nat) (f g : Nat → Nat → BitVec 32) : ∀ l : List Nat, addL (msk N) (l.map fun i => PK N fun j => f i j) (l.map fun i => PK N fun j => g i j) = l.map fun i => PK N fun j => f i j + g i j
  | [] => rfl
  | i :: l => by
    rw [List.map_cons, List.map_cons, addL, seq_eq, addL_map N f g l, List.map_cons]
    congr 1
    rw [PK, PK, PN_add, PN_mod N fun j => by have h1 := (f i j).isLt; have h2 := (g i j).isLt; omega]
    exact congrArg (PN N) (funext fun j => (BitVec.toNat_add _ _).symm)
theorem hL_eq (N k : Nat) (hk : k ≤ 200) : ∀ n, (∀ j, n ≤ nB (txt k j)) → hL (msk N) (ones N) (bPN N) k n = fL N fun j => hTo (txt k j) n
  | 0, _ => by
    rw [hL, List.map_map]
    have e : ∀ x : BitVec 32, Nat.mul x.toNat (ones N) = PK N fun _ => x := fun x => by
      rw [ones, PN_mul, PK]
      simp only [Nat.one_mul]
    have e2 : ((fun x => Nat.mul x (ones N)) ∘ BitVec.toNat) = fun x : BitVec 32 => PK N fun _ => x := funext e
    rw [e2]
    rfl
  | n + 1, hn => by
    have hn' : ∀ j, n < nB (txt k j) := fun j => hn j
    rw [hL, hL_eq N k hk n fun j => Nat.le_of_lt (hn' j)]
    have hb : blockL (msk N) (ones N) (bPN N) k n (fL N fun j => hTo (txt k j) n) = fL N fun j => vTo KK (spreadS (blk (txt k j) n)) (hTo (txt k j) n) 64 := by
      show blockL (msk N) (ones N) (bPN N) k n [PK N fun j => (hTo (txt k j) n).getD 0 0#32, PK N fun j => (hTo (txt k j) n).getD 1 0#32, PK N fun j => (hTo (txt k j) n).getD 2 0#32, PK N fun j => (hTo (txt k j) n).getD 3 0#32, PK N fun j => (hTo (txt k j) n).getD 4 0#32, PK N fun j => (hTo (txt k j) n).getD 5 0#32, PK N fun j => (hTo (txt k j) n).getD 6 0#32, PK N fun j => (hTo (txt k j) n).getD 7 0#32] = _
      rw [blockL]
      simp only [seq_eq]
      have w0 := wdL_eq N (k := k) (n := n) (i := 0) hk (by decide) hn'
      rw [Nat.add_zero] at w0
      rw [w0, wdL_eq N (i := 1) hk (by decide) hn', wdL_eq N (i := 2) hk (by decide) hn', wdL_eq N (i := 3) hk (by decide) hn', wdL_eq N (i := 4) hk (by decide) hn', wdL_eq N (i := 5) hk (by decide) hn', wdL_eq N (i := 6) hk (by decide) hn', wdL_eq N (i := 7) hk (by decide) hn', wdL_eq N (i := 8) hk (by decide) hn', wdL_eq N (i := 9) hk (by decide) hn', wdL_eq N (i := 10) hk (by decide) hn', wdL_eq N (i := 11) hk (by decide) hn', wdL_eq N (i := 12) hk (by decide) hn', wdL_eq N (i := 13) hk (by decide) hn', wdL_eq N (i := 14) hk (by decide) hn', wdL_eq N (i := 15) hk (by decide) hn']
      refine (goL_eq N KK (fun j => Wf (blk (txt k j) n) 0) (fun j => Wf (blk (txt k j) n) 1) (fun j => Wf (blk (txt k j) n) 2) (fun j => Wf (blk (txt k j) n) 3) (fun j => Wf (blk (txt k j) n) 4) (fun j => Wf (blk (txt k j) n) 5) (fun j => Wf (blk (txt k j) n) 6) (fun j => Wf (blk (txt k j) n) 7) (fun j => Wf (blk (txt k j) n) 8) (fun j => Wf (blk (txt k j) n) 9) (fun j => Wf (blk (txt k j) n) 10) (fun j => Wf (blk (txt k j) n) 11) (fun j => Wf (blk (txt k j) n) 12) (fun j => Wf (blk (txt k j) n) 13) (fun j => Wf (blk (txt k j) n) 14) (fun j => Wf (blk (txt k j) n) 15) _ _ _ _ _ _ _ _).trans ?_
      unfold fL
      refine List.map_congr_left fun i _ => ?_
      refine congrArg (PK N) (funext fun j => ?_)
      show _ = (vTo KK (spreadS (blk (txt k j) n)) (hTo (txt k j) n) 64).getD i 0#32
      rw [← goB_eq (blk (txt k j) n) (hTo (txt k j) n) (hTo_len _ _) 64 0 rfl]
      rfl
    rw [hb]
    unfold fL
    rw [addL_map]
    refine List.map_congr_left fun i hi => ?_
    have hi : i < 8 := List.mem_range.1 hi
    refine congrArg (PK N) (funext fun j => ?_)
    show _ = (addTo (hTo (txt k j) n) (vTo KK (spreadS (blk (txt k j) n)) (hTo (txt k j) n) 64) 8).getD i 0#32
    simp [addTo, List.getD_eq_getElem?_getD, hi]
def nBk (k : Nat) : Nat := (k + 9 + padZ k) / 64
theorem nBk_eq (k j : Nat) : nB (txt k j) = nBk k := by rw [nB, padS_len, txt, List.length_replicate, nBk]
def firstL (M O B k : Nat) : Nat := (hL M O B k (nBk k)).headD 0
theorem firstL_eq (N k : Nat) (hk : k ≤ 200) : firstL (msk N) (ones N) (bPN N) k = PK N fun j => (hTo (txt k j) (nB (txt k j))).getD 0 0#32 := by
  rw [firstL, hL_eq N k hk (nBk k) fun j => Nat.le_of_eq (nBk_eq k j).symm]
  simp only [nBk_eq]
  rfl
def neqL : Nat → Nat → Nat → Bool
  | 0, _, _ => true
  | n + 1, x, y => if Nat.beq (Nat.mod x 18446744073709551616) (Nat.mod y 18446744073709551616) then false else seq (Nat.div x 18446744073709551616) fun u => seq (Nat.div y 18446744073709551616) fun v => neqL n u v
theorem neqL_at : ∀ {l m : List Nat}, l.length = m.length → Lo l → Lo m → neqL l.length (pack l) (pack m) = true → ∀ i, i < l.length → l.getD i 0 ≠ m.getD i 0
  | [], _, _, _, _, _, i, hi => absurd hi (Nat.not_lt_zero _)
  | x :: l, [], h, _, _, _, _, _ => by cases h
  | x :: l, y :: m, h, hl, hm, hq, i, hi => by
    have hx : x < 18446744073709551616 := hl x List.mem_cons_self
    have hy : y < 18446744073709551616 := hm y List.mem_cons_self
    rw [List.length_cons, neqL, seq_eq, seq_eq] at hq
    have e1 : ∀ z p, z < 18446744073709551616 → Nat.mod (2 ^ 64 * p + z) 18446744073709551616 = z := fun z p hz => by
      show (2 ^ 64 * p + z) % 18446744073709551616 = z
      omega
    have e2 : ∀ z p, z < 18446744073709551616 → Nat.div (2 ^ 64 * p + z) 18446744073709551616 = p := fun z p hz => by
      show (2 ^ 64 * p + z) / 18446744073709551616 = p
      omega
    rw [pack, pack, e1 _ _ hx, e1 _ _ hy, e2 _ _ hx, e2 _ _ hy] at hq
    by_cases e : Nat.beq x y = true
    · rw [if_pos e] at hq
      cases hq
    · rw [if_neg e] at hq
      match i with
      | 0 => exact fun hh => e (by rw [Nat.beq_eq]; exact hh)
      | i + 1 => exact neqL_at (by simpa using h) (fun z hz => hl z (List.mem_cons_of_mem _ hz)) (fun z hz => hm z (List.mem_cons_of_mem _ hz)) hq i (by simpa using hi)
theorem neqL_PN {N : Nat} {f g : Nat → BitVec 32} (h : neqL N (PK N f) (PK N g) = true) {j : Nat} (hj : j < N) : f j ≠ g j := by
  have h2 := neqL_at (l := (List.range N).map fun j => (f j).toNat) (m := (List.range N).map fun j => (g j).toNat) (by simp) (lo_map N (lo32 f)) (lo_map N (lo32 g)) (by rw [List.length_map, List.length_range]; exact h) j (by simpa using hj)
  intro e
  apply h2
  simp [List.getD_eq_getElem?_getD, hj, e]
def chkL (M O B : Nat) : Nat → Nat → Nat → Bool
  | 0, _, _ => true
  | n + 1, k, x => seq (firstL M O B (Nat.succ k)) fun y => if neqL 256 x y then chkL M O B n (Nat.succ k) y else false
theorem chkL_at {n k : Nat} (h : chkL (msk 256) (ones 256) (bPN 256) n k (firstL (msk 256) (ones 256) (bPN 256) k) = true) : ∀ m, m < n → neqL 256 (firstL (msk 256) (ones 256) (bPN 256) (k + m)) (firstL (msk 256) (ones 256) (bPN 256) (k + m + 1)) = true := by
  induction n generalizing k with
  | zero => intro m hm; omega
  | succ n ih =>
    intro m hm
    rw [chkL, seq_eq] at h
    by_cases e : neqL 256 (firstL (msk 256) (ones 256) (bPN 256) k) (firstL (msk 256) (ones 256) (bPN 256) (Nat.succ k)) = true
    · rw [if_pos e] at h
      match m with
      | 0 => exact e
      | m + 1 =>
        have := ih h m (by omega)
        rwa [show Nat.succ k + m = k + (m + 1) by omega] at this
    · rw [if_neg e] at h
      cases h
theorem chk_all : (seq (msk 256) fun M => seq (ones 256) fun O => seq (bPN 256) fun B => seq (firstL M O B 0) fun x => chkL M O B 140 0 x) = true := by kernel_rfl
theorem byte4 (x y : BitVec 32) (h : ∀ i, i < 4 → (x >>> (24 - 8 * i)).setWidth 8 = (y >>> (24 - 8 * i)).setWidth 8) : x = y := by
  apply BitVec.eq_of_toNat_eq
  have h0 := congrArg BitVec.toNat (h 0 (by decide))
  have h1 := congrArg BitVec.toNat (h 1 (by decide))
  have h2 := congrArg BitVec.toNat (h 2 (by decide))
  have h3 := congrArg BitVec.toNat (h 3 (by decide))
  simp only [BitVec.toNat_setWidth, BitVec.toNat_ushiftRight, Nat.shiftRight_eq_div_pow] at h0 h1 h2 h3
  have hx := x.isLt
  have hy := y.isLt
  omega
theorem sum_apart {k : Nat} (hk : k < 140) (b : BitVec 8) : sumS (List.replicate k b) ≠ sumS (List.replicate (k + 1) b) := by
  have h := chk_all
  simp only [seq_eq] at h
  have h1 := chkL_at h k hk
  rw [Nat.zero_add, firstL_eq 256 k (by omega), firstL_eq 256 (k + 1) (by omega)] at h1
  have h2 := neqL_PN h1 b.isLt
  have e : ∀ n, txt n b.toNat = List.replicate n b := fun n => by rw [txt, BitVec.ofNat_toNat, BitVec.setWidth_eq]
  rw [e, e] at h2
  intro hs
  apply h2
  apply byte4
  intro i hi
  have h3 := congrArg (fun z : List (BitVec 8) => z.getD i 0#8) hs
  unfold sumS at h3
  simp only [List.getD_eq_getElem?_getD, List.getElem?_map, List.getElem?_range (show i < 32 by omega), Option.map_some, Option.getD_some] at h3
  unfold outB at h3
  rw [show i / 4 = 0 by omega, show i % 4 = i by omega] at h3
  exact h3

def abB : List (BitVec 8) := [97#8, 98#8, 99#8, 128#8, 0#8, 0#8, 0#8, 0#8, 0#8, 0#8, 0#8, 0#8, 0#8, 0#8, 0#8, 0#8, 0#8, 0#8, 0#8, 0#8, 0#8, 0#8, 0#8, 0#8, 0#8, 0#8, 0#8, 0#8, 0#8, 0#8, 0#8, 0#8, 0#8, 0#8, 0#8, 0#8, 0#8, 0#8, 0#8, 0#8, 0#8, 0#8, 0#8, 0#8, 0#8, 0#8, 0#8, 0#8, 0#8, 0#8, 0#8, 0#8, 0#8, 0#8, 0#8, 0#8, 0#8, 0#8, 0#8, 0#8, 0#8, 0#8, 0#8, 24#8]
theorem abw0 : wTo abB 0 = [0#32, 0#32, 0#32, 0#32, 0#32, 0#32, 0#32, 0#32, 0#32, 0#32, 0#32, 0#32, 0#32, 0#32, 0#32, 0#32, 0#32, 0#32, 0#32, 0#32, 0#32, 0#32, 0#32, 0#32, 0#32, 0#32, 0#32, 0#32, 0#32, 0#32, 0#32, 0#32, 0#32, 0#32, 0#32, 0#32, 0#32, 0#32, 0#32, 0#32, 0#32, 0#32, 0#32, 0#32, 0#32, 0#32, 0#32, 0#32, 0#32, 0#32, 0#32, 0#32, 0#32, 0#32, 0#32, 0#32, 0#32, 0#32, 0#32, 0#32, 0#32, 0#32, 0#32, 0#32] := rfl
theorem abw1 : wTo abB 4 = [1633837952#32, 0#32, 0#32, 0#32, 0#32, 0#32, 0#32, 0#32, 0#32, 0#32, 0#32, 0#32, 0#32, 0#32, 0#32, 0#32, 0#32, 0#32, 0#32, 0#32, 0#32, 0#32, 0#32, 0#32, 0#32, 0#32, 0#32, 0#32, 0#32, 0#32, 0#32, 0#32, 0#32, 0#32, 0#32, 0#32, 0#32, 0#32, 0#32, 0#32, 0#32, 0#32, 0#32, 0#32, 0#32, 0#32, 0#32, 0#32, 0#32, 0#32, 0#32, 0#32, 0#32, 0#32, 0#32, 0#32, 0#32, 0#32, 0#32, 0#32, 0#32, 0#32, 0#32, 0#32] := by
  show wStep abB (wStep abB (wStep abB (wStep abB (wTo abB 0) 0) 1) 2) 3 = _
  rw [abw0]
  kernel_rfl
theorem abw2 : wTo abB 8 = [1633837952#32, 0#32, 0#32, 0#32, 0#32, 0#32, 0#32, 0#32, 0#32, 0#32, 0#32, 0#32, 0#32, 0#32, 0#32, 0#32, 0#32, 0#32, 0#32, 0#32, 0#32, 0#32, 0#32, 0#32, 0#32, 0#32, 0#32, 0#32, 0#32, 0#32, 0#32, 0#32, 0#32, 0#32, 0#32, 0#32, 0#32, 0#32, 0#32, 0#32, 0#32, 0#32, 0#32, 0#32, 0#32, 0#32, 0#32, 0#32, 0#32, 0#32, 0#32, 0#32, 0#32, 0#32, 0#32, 0#32, 0#32, 0#32, 0#32, 0#32, 0#32, 0#32, 0#32, 0#32] := by
  show wStep abB (wStep abB (wStep abB (wStep abB (wTo abB 4) 4) 5) 6) 7 = _
  rw [abw1]
  kernel_rfl
theorem abw3 : wTo abB 12 = [1633837952#32, 0#32, 0#32, 0#32, 0#32, 0#32, 0#32, 0#32, 0#32, 0#32, 0#32, 0#32, 0#32, 0#32, 0#32, 0#32, 0#32, 0#32, 0#32, 0#32, 0#32, 0#32, 0#32, 0#32, 0#32, 0#32, 0#32, 0#32, 0#32, 0#32, 0#32, 0#32, 0#32, 0#32, 0#32, 0#32, 0#32, 0#32, 0#32, 0#32, 0#32, 0#32, 0#32, 0#32, 0#32, 0#32, 0#32, 0#32, 0#32, 0#32, 0#32, 0#32, 0#32, 0#32, 0#32, 0#32, 0#32, 0#32, 0#32, 0#32, 0#32, 0#32, 0#32, 0#32] := by
  show wStep abB (wStep abB (wStep abB (wStep abB (wTo abB 8) 8) 9) 10) 11 = _
  rw [abw2]
  kernel_rfl
theorem abw4 : wTo abB 16 = [1633837952#32, 0#32, 0#32, 0#32, 0#32, 0#32, 0#32, 0#32, 0#32, 0#32, 0#32, 0#32, 0#32, 0#32, 0#32, 0#32, 0#32, 0#32, 0#32, 0#32, 0#32, 0#32, 0#32, 0#32, 0#32, 0#32, 0#32, 0#32, 0#32, 0#32, 0#32, 0#32, 0#32, 0#32, 0#32, 0#32, 0#32, 0#32, 0#32, 0#32, 0#32, 0#32, 0#32, 0#32, 0#32, 0#32, 0#32, 0#32, 0#32, 0#32, 0#32, 0#32, 0#32, 0#32, 0#32, 0#32, 0#32, 0#32, 0#32, 0#32, 0#32, 0#32, 0#32, 0#32] := by
  show wStep abB (wStep abB (wStep abB (wStep abB (wTo abB 12) 12) 13) 14) 15 = _
  rw [abw3]
  kernel_rfl
theorem abw5 : wTo abB 20 = [1633837952#32, 0#32, 0#32, 0#32, 0#32, 0#32, 0#32, 0#32, 0#32, 0#32, 0#32, 0#32, 0#32, 0#32, 0#32, 0#32, 0#32, 0#32, 0#32, 0#32, 0#32, 0#32, 0#32, 0#32, 0#32, 0#32, 0#32, 0#32, 0#32, 0#32, 0#32, 0#32, 0#32, 0#32, 0#32, 0#32, 0#32, 0#32, 0#32, 0#32, 0#32, 0#32, 0#32, 0#32, 0#32, 0#32, 0#32, 0#32, 0#32, 0#32, 0#32, 0#32, 0#32, 0#32, 0#32, 0#32, 0#32, 0#32, 0#32, 0#32, 0#32, 0#32, 0#32, 0#32] := by
  show wStep abB (wStep abB (wStep abB (wStep abB (wTo abB 16) 16) 17) 18) 19 = _
  rw [abw4]
  kernel_rfl
theorem abw6 : wTo abB 24 = [1633837952#32, 0#32, 0#32, 0#32, 0#32, 0#32, 0#32, 0#32, 0#32, 0#32, 0#32, 0#32, 0#32, 0#32, 0#32, 0#32, 0#32, 0#32, 0#32, 0#32, 0#32, 0#32, 0#32, 0#32, 0#32, 0#32, 0#32, 0#32, 0#32, 0#32, 0#32, 0#32, 0#32, 0#32, 0#32, 0#32, 0#32, 0#32, 0#32, 0#32, 0#32, 0#32, 0#32, 0#32, 0#32, 0#32, 0#32, 0#32, 0#32, 0#32, 0#32, 0#32, 0#32, 0#32, 0#32, 0#32, 0#32, 0#32, 0#32, 0#32, 0#32, 0#32, 0#32, 0#32] := by
  show wStep abB (wStep abB (wStep abB (wStep abB (wTo abB 20) 20) 21) 22) 23 = _
  rw [abw5]
  kernel_rfl
theorem abw7 : wTo abB 28 = [1633837952#32, 0#32, 0#32, 0#32, 0#32, 0#32, 0#32, 0#32, 0#32, 0#32, 0#32, 0#32, 0#32, 0#32, 0#32, 0#32, 0#32, 0#32, 0#32, 0#32, 0#32, 0#32, 0#32, 0#32, 0#32, 0#32, 0#32, 0#32, 0#32, 0#32, 0#32, 0#32, 0#32, 0#32, 0#32, 0#32, 0#32, 0#32, 0#32, 0#32, 0#32, 0#32, 0#32, 0#32, 0#32, 0#32, 0#32, 0#32, 0#32, 0#32, 0#32, 0#32, 0#32, 0#32, 0#32, 0#32, 0#32, 0#32, 0#32, 0#32, 0#32, 0#32, 0#32, 0#32] := by
  show wStep abB (wStep abB (wStep abB (wStep abB (wTo abB 24) 24) 25) 26) 27 = _
  rw [abw6]
  kernel_rfl
theorem abw8 : wTo abB 32 = [1633837952#32, 0#32, 0#32, 0#32, 0#32, 0#32, 0#32, 0#32, 0#32, 0#32, 0#32, 0#32, 0#32, 0#32, 0#32, 0#32, 0#32, 0#32, 0#32, 0#32, 0#32, 0#32, 0#32, 0#32, 0#32, 0#32, 0#32, 0#32, 0#32, 0#32, 0#32, 0#32, 0#32, 0#32, 0#32, 0#32, 0#32, 0#32, 0#32, 0#32, 0#32, 0#32, 0#32, 0#32, 0#32, 0#32, 0#32, 0#32, 0#32, 0#32, 0#32, 0#32, 0#32, 0#32, 0#32, 0#32, 0#32, 0#32, 0#32, 0#32, 0#32, 0#32, 0#32, 0#32] := by
  show wStep abB (wStep abB (wStep abB (wStep abB (wTo abB 28) 28) 29) 30) 31 = _
  rw [abw7]
  kernel_rfl
theorem abw9 : wTo abB 36 = [1633837952#32, 0#32, 0#32, 0#32, 0#32, 0#32, 0#32, 0#32, 0#32, 0#32, 0#32, 0#32, 0#32, 0#32, 0#32, 0#32, 0#32, 0#32, 0#32, 0#32, 0#32, 0#32, 0#32, 0#32, 0#32, 0#32, 0#32, 0#32, 0#32, 0#32, 0#32, 0#32, 0#32, 0#32, 0#32, 0#32, 0#32, 0#32, 0#32, 0#32, 0#32, 0#32, 0#32, 0#32, 0#32, 0#32, 0#32, 0#32, 0#32, 0#32, 0#32, 0#32, 0#32, 0#32, 0#32, 0#32, 0#32, 0#32, 0#32, 0#32, 0#32, 0#32, 0#32, 0#32] := by
  show wStep abB (wStep abB (wStep abB (wStep abB (wTo abB 32) 32) 33) 34) 35 = _
  rw [abw8]
  kernel_rfl
theorem abw10 : wTo abB 40 = [1633837952#32, 0#32, 0#32, 0#32, 0#32, 0#32, 0#32, 0#32, 0#32, 0#32, 0#32, 0#32, 0#32, 0#32, 0#32, 0#32, 0#32, 0#32, 0#32, 0#32, 0#32, 0#32, 0#32, 0#32, 0#32, 0#32, 0#32, 0#32, 0#32, 0#32, 0#32, 0#32, 0#32, 0#32, 0#32, 0#32, 0#32, 0#32, 0#32, 0#32, 0#32, 0#32, 0#32, 0#32, 0#32, 0#32, 0#32, 0#32, 0#32, 0#32, 0#32, 0#32, 0#32, 0#32, 0#32, 0#32, 0#32, 0#32, 0#32, 0#32, 0#32, 0#32, 0#32, 0#32] := by
  show wStep abB (wStep abB (wStep abB (wStep abB (wTo abB 36) 36) 37) 38) 39 = _
  rw [abw9]
  kernel_rfl
theorem abw11 : wTo abB 44 = [1633837952#32, 0#32, 0#32, 0#32, 0#32, 0#32, 0#32, 0#32, 0#32, 0#32, 0#32, 0#32, 0#32, 0#32, 0#32, 0#32, 0#32, 0#32, 0#32, 0#32, 0#32, 0#32, 0#32, 0#32, 0#32, 0#32, 0#32, 0#32, 0#32, 0#32, 0#32, 0#32, 0#32, 0#32, 0#32, 0#32, 0#32, 0#32, 0#32, 0#32, 0#32, 0#32, 0#32, 0#32, 0#32, 0#32, 0#32, 0#32, 0#32, 0#32, 0#32, 0#32, 0#32, 0#32, 0#32, 0#32, 0#32, 0#32, 0#32, 0#32, 0#32, 0#32, 0#32, 0#32] := by
  show wStep abB (wStep abB (wStep abB (wStep abB (wTo abB 40) 40) 41) 42) 43 = _
  rw [abw10]
  kernel_rfl
theorem abw12 : wTo abB 48 = [1633837952#32, 0#32, 0#32, 0#32, 0#32, 0#32, 0#32, 0#32, 0#32, 0#32, 0#32, 0#32, 0#32, 0#32, 0#32, 0#32, 0#32, 0#32, 0#32, 0#32, 0#32, 0#32, 0#32, 0#32, 0#32, 0#32, 0#32, 0#32, 0#32, 0#32, 0#32, 0#32, 0#32, 0#32, 0#32, 0#32, 0#32, 0#32, 0#32, 0#32, 0#32, 0#32, 0#32, 0#32, 0#32, 0#32, 0#32, 0#32, 0#32, 0#32, 0#32, 0#32, 0#32, 0#32, 0#32, 0#32, 0#32, 0#32, 0#32, 0#32, 0#32, 0#32, 0#32, 0#32] := by
  show wStep abB (wStep abB (wStep abB (wStep abB (wTo abB 44) 44) 45) 46) 47 = _
  rw [abw11]
  kernel_rfl
theorem abw13 : wTo abB 52 = [1633837952#32, 0#32, 0#32, 0#32, 0#32, 0#32, 0#32, 0#32, 0#32, 0#32, 0#32, 0#32, 0#32, 0#32, 0#32, 0#32, 0#32, 0#32, 0#32, 0#32, 0#32, 0#32, 0#32, 0#32, 0#32, 0#32, 0#32, 0#32, 0#32, 0#32, 0#32, 0#32, 0#32, 0#32, 0#32, 0#32, 0#32, 0#32, 0#32, 0#32, 0#32, 0#32, 0#32, 0#32, 0#32, 0#32, 0#32, 0#32, 0#32, 0#32, 0#32, 0#32, 0#32, 0#32, 0#32, 0#32, 0#32, 0#32, 0#32, 0#32, 0#32, 0#32, 0#32, 0#32] := by
  show wStep abB (wStep abB (wStep abB (wStep abB (wTo abB 48) 48) 49) 50) 51 = _
  rw [abw12]
  kernel_rfl
theorem abw14 : wTo abB 56 = [1633837952#32, 0#32, 0#32, 0#32, 0#32, 0#32, 0#32, 0#32, 0#32, 0#32, 0#32, 0#32, 0#32, 0#32, 0#32, 0#32, 0#32, 0#32, 0#32, 0#32, 0#32, 0#32, 0#32, 0#32, 0#32, 0#32, 0#32, 0#32, 0#32, 0#32, 0#32, 0#32, 0#32, 0#32, 0#32, 0#32, 0#32, 0#32, 0#32, 0#32, 0#32, 0#32, 0#32, 0#32, 0#32, 0#32, 0#32, 0#32, 0#32, 0#32, 0#32, 0#32, 0#32, 0#32, 0#32, 0#32, 0#32, 0#32, 0#32, 0#32, 0#32, 0#32, 0#32, 0#32] := by
  show wStep abB (wStep abB (wStep abB (wStep abB (wTo abB 52) 52) 53) 54) 55 = _
  rw [abw13]
  kernel_rfl
theorem abw15 : wTo abB 60 = [1633837952#32, 0#32, 0#32, 0#32, 0#32, 0#32, 0#32, 0#32, 0#32, 0#32, 0#32, 0#32, 0#32, 0#32, 0#32, 0#32, 0#32, 0#32, 0#32, 0#32, 0#32, 0#32, 0#32, 0#32, 0#32, 0#32, 0#32, 0#32, 0#32, 0#32, 0#32, 0#32, 0#32, 0#32, 0#32, 0#32, 0#32, 0#32, 0#32, 0#32, 0#32, 0#32, 0#32, 0#32, 0#32, 0#32, 0#32, 0#32, 0#32, 0#32, 0#32, 0#32, 0#32, 0#32, 0#32, 0#32, 0#32, 0#32, 0#32, 0#32, 0#32, 0#32, 0#32, 0#32] := by
  show wStep abB (wStep abB (wStep abB (wStep abB (wTo abB 56) 56) 57) 58) 59 = _
  rw [abw14]
  kernel_rfl
theorem abw16 : wTo abB 64 = [1633837952#32, 0#32, 0#32, 0#32, 0#32, 0#32, 0#32, 0#32, 0#32, 0#32, 0#32, 0#32, 0#32, 0#32, 0#32, 24#32, 0#32, 0#32, 0#32, 0#32, 0#32, 0#32, 0#32, 0#32, 0#32, 0#32, 0#32, 0#32, 0#32, 0#32, 0#32, 0#32, 0#32, 0#32, 0#32, 0#32, 0#32, 0#32, 0#32, 0#32, 0#32, 0#32, 0#32, 0#32, 0#32, 0#32, 0#32, 0#32, 0#32, 0#32, 0#32, 0#32, 0#32, 0#32, 0#32, 0#32, 0#32, 0#32, 0#32, 0#32, 0#32, 0#32, 0#32, 0#32] := by
  show wStep abB (wStep abB (wStep abB (wStep abB (wTo abB 60) 60) 61) 62) 63 = _
  rw [abw15]
  kernel_rfl
theorem abs0 : sTo abB 0 = [1633837952#32, 0#32, 0#32, 0#32, 0#32, 0#32, 0#32, 0#32, 0#32, 0#32, 0#32, 0#32, 0#32, 0#32, 0#32, 24#32, 0#32, 0#32, 0#32, 0#32, 0#32, 0#32, 0#32, 0#32, 0#32, 0#32, 0#32, 0#32, 0#32, 0#32, 0#32, 0#32, 0#32, 0#32, 0#32, 0#32, 0#32, 0#32, 0#32, 0#32, 0#32, 0#32, 0#32, 0#32, 0#32, 0#32, 0#32, 0#32, 0#32, 0#32, 0#32, 0#32, 0#32, 0#32, 0#32, 0#32, 0#32, 0#32, 0#32, 0#32, 0#32, 0#32, 0#32, 0#32] := abw16
theorem abs1 : sTo abB 1 = [1633837952#32, 0#32, 0#32, 0#32, 0#32, 0#32, 0#32, 0#32, 0#32, 0#32, 0#32, 0#32, 0#32, 0#32, 0#32, 24#32, 1633837952#32, 0#32, 0#32, 0#32, 0#32, 0#32, 0#32, 0#32, 0#32, 0#32, 0#32, 0#32, 0#32, 0#32, 0#32, 0#32, 0#32, 0#32, 0#32, 0#32, 0#32, 0#32, 0#32, 0#32, 0#32, 0#32, 0#32, 0#32, 0#32, 0#32, 0#32, 0#32, 0#32, 0#32, 0#32, 0#32, 0#32, 0#32, 0#32, 0#32, 0#32, 0#32, 0#32, 0#32, 0#32, 0#32, 0#32, 0#32] := by
  rw [sTo, abs0]
  kernel_rfl
theorem abs2 : sTo abB 2 = [1633837952#32, 0#32, 0#32, 0#32, 0#32, 0#32, 0#32, 0#32, 0#32, 0#32, 0#32, 0#32, 0#32, 0#32, 0#32, 24#32, 1633837952#32, 983040#32, 0#32, 0#32, 0#32, 0#32, 0#32, 0#32, 0#32, 0#32, 0#32, 0#32, 0#32, 0#32, 0#32, 0#32, 0#32, 0#32, 0#32, 0#32, 0#32, 0#32, 0#32, 0#32, 0#32, 0#32, 0#32, 0#32, 0#32, 0#32, 0#32, 0#32, 0#32, 0#32, 0#32, 0#32, 0#32, 0#32, 0#32, 0#32, 0#32, 0#32, 0#32, 0#32, 0#32, 0#32, 0#32, 0#32] := by
  rw [sTo, abs1]
  kernel_rfl
theorem abs3 : sTo abB 3 = [1633837952#32, 0#32, 0#32, 0#32, 0#32, 0#32, 0#32, 0#32, 0#32, 0#32, 0#32, 0#32, 0#32, 0#32, 0#32, 24#32, 1633837952#32, 983040#32, 2108187653#32, 0#32, 0#32, 0#32, 0#32, 0#32, 0#32, 0#32, 0#32, 0#32, 0#32, 0#32, 0#32, 0#32, 0#32, 0#32, 0#32, 0#32, 0#32, 0#32, 0#32, 0#32, 0#32, 0#32, 0#32, 0#32, 0#32, 0#32, 0#32, 0#32, 0#32, 0#32, 0#32, 0#32, 0#32, 0#32, 0#32, 0#32, 0#32, 0#32, 0#32, 0#32, 0#32, 0#32, 0#32, 0#32] := by
  rw [sTo, abs2]
  kernel_rfl
theorem abs4 : sTo abB 4 = [1633837952#32, 0#32, 0#32, 0#32, 0#32, 0#32, 0#32, 0#32, 0#32, 0#32, 0#32, 0#32, 0#32, 0#32, 0#32, 24#32, 1633837952#32, 983040#32, 2108187653#32, 1610613702#32, 0#32, 0#32, 0#32, 0#32, 0#32, 0#32, 0#32, 0#32, 0#32, 0#32, 0#32, 0#32, 0#32, 0#32, 0#32, 0#32, 0#32, 0#32, 0#32, 0#32, 0#32, 0#32, 0#32, 0#32, 0#32, 0#32, 0#32, 0#32, 0#32, 0#32, 0#32, 0#32, 0#32, 0#32, 0#32, 0#32, 0#32, 0#32, 0#32, 0#32, 0#32, 0#32, 0#32, 0#32] := by
  rw [sTo, abs3]
  kernel_rfl
theorem abs5 : sTo abB 5 = [1633837952#32, 0#32, 0#32, 0#32, 0#32, 0#32, 0#32, 0#32, 0#32, 0#32, 0#32, 0#32, 0#32, 0#32, 0#32, 24#32, 1633837952#32, 983040#32, 2108187653#32, 1610613702#32, 1050508152#32, 0#32, 0#32, 0#32, 0#32, 0#32, 0#32, 0#32, 0#32, 0#32, 0#32, 0#32, 0#32, 0#32, 0#32, 0#32, 0#32, 0#32, 0#32, 0#32, 0#32, 0#32, 0#32, 0#32, 0#32, 0#32, 0#32, 0#32, 0#32, 0#32, 0#32, 0#32, 0#32, 0#32, 0#32, 0#32, 0#32, 0#32, 0#32, 0#32, 0#32, 0#32, 0#32, 0#32] := by
  rw [sTo, abs4]
  kernel_rfl
theorem abs6 : sTo abB 6 = [1633837952#32, 0#32, 0#32, 0#32, 0#32, 0#32, 0#32, 0#32, 0#32, 0#32, 0#32, 0#32, 0#32, 0#32, 0#32, 24#32, 1633837952#32, 983040#32, 2108187653#32, 1610613702#32, 1050508152#32, 25426944#32, 0#32, 0#32, 0#32, 0#32, 0#32, 0#32, 0#32, 0#32, 0#32, 0#32, 0#32, 0#32, 0#32, 0#32, 0#32, 0#32, 0#32, 0#32, 0#32, 0#32, 0#32, 0#32, 0#32, 0#32, 0#32, 0#32, 0#32, 0#32, 0#32, 0#32, 0#32, 0#32, 0#32, 0#32, 0#32, 0#32, 0#32, 0#32, 0#32, 0#32, 0#32, 0#32] := by
  rw [sTo, abs5]
  kernel_rfl
theorem abs7 : sTo abB 7 = [1633837952#32, 0#32, 0#32, 0#32, 0#32, 0#32, 0#32, 0#32, 0#32, 0#32, 0#32, 0#32, 0#32, 0#32, 0#32, 24#32, 1633837952#32, 983040#32, 2108187653#32, 1610613702#32, 1050508152#32, 25426944#32, 316456923#32, 0#32, 0#32, 0#32, 0#32, 0#32, 0#32, 0#32, 0#32, 0#32, 0#32, 0#32, 0#32, 0#32, 0#32, 0#32, 0#32, 0#32, 0#32, 0#32, 0#32, 0#32, 0#32, 0#32, 0#32, 0#32, 0#32, 0#32, 0#32, 0#32, 0#32, 0#32, 0#32, 0#32, 0#32, 0#32, 0#32, 0#32, 0#32, 0#32, 0#32, 0#32] := by
  rw [sTo, abs6]
  kernel_rfl
theorem abs8 : sTo abB 8 = [1633837952#32, 0#32, 0#32, 0#32, 0#32, 0#32, 0#32, 0#32, 0#32, 0#32, 0#32, 0#32, 0#32, 0#32, 0#32, 24#32, 1633837952#32, 983040#32, 2108187653#32, 1610613702#32, 1050508152#32, 25426944#32, 316456923#32, 3806512014#32, 0#32, 0#32, 0#32, 0#32, 0#32, 0#32, 0#32, 0#32, 0#32, 0#32, 0#32, 0#32, 0#32, 0#32, 0#32, 0#32, 0#32, 0#32, 0#32, 0#32, 0#32, 0#32, 0#32, 0#32, 0#32, 0#32, 0#32, 0#32, 0#32, 0#32, 0#32, 0#32, 0#32, 0#32, 0#32, 0#32, 0#32, 0#32, 0#32, 0#32] := by
  rw [sTo, abs7]
  kernel_rfl
theorem abs9 : sTo abB 9 = [1633837952#32, 0#32, 0#32, 0#32, 0#32, 0#32, 0#32, 0#32, 0#32, 0#32, 0#32, 0#32, 0#32, 0#32, 0#32, 24#32, 1633837952#32, 983040#32, 2108187653#32, 1610613702#32, 1050508152#32, 25426944#32, 316456923#32, 3806512014#32, 3357629466#32, 0#32, 0#32, 0#32, 0#32, 0#32, 0#32, 0#32, 0#32, 0#32, 0#32, 0#32, 0#32, 0#32, 0#32, 0#32, 0#32, 0#32, 0#32, 0#32, 0#32, 0#32, 0#32, 0#32, 0#32, 0#32, 0#32, 0#32, 0#32, 0#32, 0#32, 0#32, 0#32, 0#32, 0#32, 0#32, 0#32, 0#32, 0#32, 0#32] := by
  rw [sTo, abs8]
  kernel_rfl
theorem abs10 : sTo abB 10 = [1633837952#32, 0#32, 0#32, 0#32, 0#32, 0#32, 0#32, 0#32, 0#32, 0#32, 0#32, 0#32, 0#32, 0#32, 0#32, 24#32, 1633837952#32, 983040#32, 2108187653#32, 1610613702#32, 1050508152#32, 25426944#32, 316456923#32, 3806512014#32, 3357629466#32, 3073800610#32, 0#32, 0#32, 0#32, 0#32, 0#32, 0#32, 0#32, 0#32, 0#32, 0#32, 0#32, 0#32, 0#32, 0#32, 0#32, 0#32, 0#32, 0#32, 0#32, 0#32, 0#32, 0#32, 0#32, 0#32, 0#32, 0#32, 0#32, 0#32, 0#32, 0#32, 0#32, 0#32, 0#32, 0#32, 0#32, 0#32, 0#32, 0#32] := by
  rw [sTo, abs9]
  kernel_rfl
theorem abs11 : sTo abB 11 = [1633837952#32, 0#32, 0#32, 0#32, 0#32, 0#32, 0#32, 0#32, 0#32, 0#32, 0#32, 0#32, 0#32, 0#32, 0#32, 24#32, 1633837952#32, 983040#32, 2108187653#32, 1610613702#32, 1050508152#32, 25426944#32, 316456923#32, 3806512014#32, 3357629466#32, 3073800610#32, 3854317833#32, 0#32, 0#32, 0#32, 0#32, 0#32, 0#32, 0#32, 0#32, 0#32, 0#32, 0#32, 0#32, 0#32, 0#32, 0#32, 0#32, 0#32, 0#32, 0#32, 0#32, 0#32, 0#32, 0#32, 0#32, 0#32, 0#32, 0#32, 0#32, 0#32, 0#32, 0#32, 0#32, 0#32, 0#32, 0#32, 0#32, 0#32] := by
  rw [sTo, abs10]
  kernel_rfl
theorem abs12 : sTo abB 12 = [1633837952#32, 0#32, 0#32, 0#32, 0#32, 0#32, 0#32, 0#32, 0#32, 0#32, 0#32, 0#32, 0#32, 0#32, 0#32, 24#32, 1633837952#32, 983040#32, 2108187653#32, 1610613702#32, 1050508152#32, 25426944#32, 316456923#32, 3806512014#32, 3357629466#32, 3073800610#32, 3854317833#32, 845560923#32, 0#32, 0#32, 0#32, 0#32, 0#32, 0#32, 0#32, 0#32, 0#32, 0#32, 0#32, 0#32, 0#32, 0#32, 0#32, 0#32, 0#32, 0#32, 0#32, 0#32, 0#32, 0#32, 0#32, 0#32, 0#32, 0#32, 0#32, 0#32, 0#32, 0#32, 0#32, 0#32, 0#32, 0#32, 0#32, 0#32] := by
  rw [sTo, abs11]
  kernel_rfl
theorem abs13 : sTo abB 13 = [1633837952#32, 0#32, 0#32, 0#32, 0#32, 0#32, 0#32, 0#32, 0#32, 0#32, 0#32, 0#32, 0#32, 0#32, 0#32, 24#32, 1633837952#32, 983040#32, 2108187653#32, 1610613702#32, 1050508152#32, 25426944#32, 316456923#32, 3806512014#32, 3357629466#32, 3073800610#32, 3854317833#32, 845560923#32, 2636160359#32, 0#32, 0#32, 0#32, 0#32, 0#32, 0#32, 0#32, 0#32, 0#32, 0#32, 0#32, 0#32, 0#32, 0#32, 0#32, 0#32, 0#32, 0#32, 0#32, 0#32, 0#32, 0#32, 0#32, 0#32, 0#32, 0#32, 0#32, 0#32, 0#32, 0#32, 0#32, 0#32, 0#32, 0#32, 0#32] := by
  rw [sTo, abs12]
  kernel_rfl
theorem abs14 : sTo abB 14 = [1633837952#32, 0#32, 0#32, 0#32, 0#32, 0#32, 0#32, 0#32, 0#32, 0#32, 0#32, 0#32, 0#32, 0#32, 0#32, 24#32, 1633837952#32, 983040#32, 2108187653#32, 1610613702#32, 1050508152#32, 25426944#32, 316456923#32, 3806512014#32, 3357629466#32, 3073800610#32, 3854317833#32, 845560923#32, 2636160359#32, 3968280267#32, 0#32, 0#32, 0#32, 0#32, 0#32, 0#32, 0#32, 0#32, 0#32, 0#32, 0#32, 0#32, 0#32, 0#32, 0#32, 0#32, 0#32, 0#32, 0#32, 0#32, 0#32, 0#32, 0#32, 0#32, 0#32, 0#32, 0#32, 0#32, 0#32, 0#32, 0#32, 0#32, 0#32, 0#32] := by
  rw [sTo, abs13]
  kernel_rfl
theorem abs15 : sTo abB 15 = [1633837952#32, 0#32, 0#32, 0#32, 0#32, 0#32, 0#32, 0#32, 0#32, 0#32, 0#32, 0#32, 0#32, 0#32, 0#32, 24#32, 1633837952#32, 983040#32, 2108187653#32, 1610613702#32, 1050508152#32, 25426944#32, 316456923#32, 3806512014#32, 3357629466#32, 3073800610#32, 3854317833#32, 845560923#32, 2636160359#32, 3968280267#32, 1881225380#32, 0#32, 0#32, 0#32, 0#32, 0#32, 0#32, 0#32, 0#32, 0#32, 0#32, 0#32, 0#32, 0#32, 0#32, 0#32, 0#32, 0#32, 0#32, 0#32, 0#32, 0#32, 0#32, 0#32, 0#32, 0#32, 0#32, 0#32, 0#32, 0#32, 0#32, 0#32, 0#32, 0#32] := by
  rw [sTo, abs14]
  kernel_rfl
theorem abs16 : sTo abB 16 = [1633837952#32, 0#32, 0#32, 0#32, 0#32, 0#32, 0#32, 0#32, 0#32, 0#32, 0#32, 0#32, 0#32, 0#32, 0#32, 24#32, 1633837952#32, 983040#32, 2108187653#32, 1610613702#32, 1050508152#32, 25426944#32, 316456923#32, 3806512014#32, 3357629466#32, 3073800610#32, 3854317833#32, 845560923#32, 2636160359#32, 3968280267#32, 1881225380#32, 3552024379#32, 0#32, 0#32, 0#32, 0#32, 0#32, 0#32, 0#32, 0#32, 0#32, 0#32, 0#32, 0#32, 0#32, 0#32, 0#32, 0#32, 0#32, 0#32, 0#32, 0#32, 0#32, 0#32, 0#32, 0#32, 0#32, 0#32, 0#32, 0#32, 0#32, 0#32, 0#32, 0#32] := by
  rw [sTo, abs15]
  kernel_rfl
theorem abs17 : sTo abB 17 = [1633837952#32, 0#32, 0#32, 0#32, 0#32, 0#32, 0#32, 0#32, 0#32, 0#32, 0#32, 0#32, 0#32, 0#32, 0#32, 24#32, 1633837952#32, 983040#32, 2108187653#32, 1610613702#32, 1050508152#32, 25426944#32, 316456923#32, 3806512014#32, 3357629466#32, 3073800610#32, 3854317833#32, 845560923#32, 2636160359#32, 3968280267#32, 1881225380#32, 3552024379#32, 2482346367#32, 0#32, 0#32, 0#32, 0#32, 0#32, 0#32, 0#32, 0#32, 0#32, 0#32, 0#32, 0#32, 0#32, 0#32, 0#32, 0#32, 0#32, 0#32, 0#32, 0#32, 0#32, 0#32, 0#32, 0#32, 0#32, 0#32, 0#32, 0#32, 0#32, 0#32, 0#32] := by
  rw [sTo, abs16]
  kernel_rfl
theorem abs18 : sTo abB 18 = [1633837952#32, 0#32, 0#32, 0#32, 0#32, 0#32, 0#32, 0#32, 0#32, 0#32, 0#32, 0#32, 0#32, 0#32, 0#32, 24#32, 1633837952#32, 983040#32, 2108187653#32, 1610613702#32, 1050508152#32, 25426944#32, 316456923#32, 3806512014#32, 3357629466#32, 3073800610#32, 3854317833#32, 845560923#32, 2636160359#32, 3968280267#32, 1881225380#32, 3552024379#32, 2482346367#32, 996719219#32, 0#32, 0#32, 0#32, 0#32, 0#32, 0#32, 0#32, 0#32, 0#32, 0#32, 0#32, 0#32, 0#32, 0#32, 0#32, 0#32, 0#32, 0#32, 0#32, 0#32, 0#32, 0#32, 0#32, 0#32, 0#32, 0#32, 0#32, 0#32, 0#32, 0#32] := by
  rw [sTo, abs17]
  kernel_rfl
theorem abs19 : sTo abB 19 = [1633837952#32, 0#32, 0#32, 0#32, 0#32, 0#32, 0#32, 0#32, 0#32, 0#32, 0#32, 0#32, 0#32, 0#32, 0#32, 24#32, 1633837952#32, 983040#32, 2108187653#32, 1610613702#32, 1050508152#32, 25426944#32, 316456923#32, 3806512014#32, 3357629466#32, 3073800610#32, 3854317833#32, 845560923#32, 2636160359#32, 3968280267#32, 1881225380#32, 3552024379#32, 2482346367#32, 996719219#32, 2952069057#32, 0#32, 0#32, 0#32, 0#32, 0#32, 0#32, 0#32, 0#32, 0#32, 0#32, 0#32, 0#32, 0#32, 0#32, 0#32, 0#32, 0#32, 0#32, 0#32, 0#32, 0#32, 0#32, 0#32, 0#32, 0#32, 0#32, 0#32, 0#32, 0#32] := by
  rw [sTo, abs18]
  kernel_rfl
theorem abs20 : sTo abB 20 = [1633837952#32, 0#32, 0#32, 0#32, 0#32, 0#32, 0#32, 0#32, 0#32, 0#32, 0#32, 0#32, 0#32, 0#32, 0#32, 24#32, 1633837952#32, 983040#32, 2108187653#32, 1610613702#32, 1050508152#32, 25426944#32, 316456923#32, 3806512014#32, 3357629466#32, 3073800610#32, 3854317833#32, 845560923#32, 2636160359#32, 3968280267#32, 1881225380#32, 3552024379#32, 2482346367#32, 996719219#32, 2952069057#32, 4043988066#32, 0#32, 0#32, 0#32, 0#32, 0#32, 0#32, 0#32, 0#32, 0#32, 0#32, 0#32, 0#32, 0#32, 0#32, 0#32, 0#32, 0#32, 0#32, 0#32, 0#32, 0#32, 0#32, 0#32, 0#32, 0#32, 0#32, 0#32, 0#32] := by
  rw [sTo, abs19]
  kernel_rfl
theorem abs21 : sTo abB 21 = [1633837952#32, 0#32, 0#32, 0#32, 0#32, 0#32, 0#32, 0#32, 0#32, 0#32, 0#32, 0#32, 0#32, 0#32, 0#32, 24#32, 1633837952#32, 983040#32, 2108187653#32, 1610613702#32, 1050508152#32, 25426944#32, 316456923#32, 3806512014#32, 3357629466#32, 3073800610#32, 3854317833#32, 845560923#32, 2636160359#32, 3968280267#32, 1881225380#32, 3552024379#32, 2482346367#32, 996719219#32, 2952069057#32, 4043988066#32, 176896406#32, 0#32, 0#32, 0#32, 0#32, 0#32, 0#32, 0#32, 0#32, 0#32, 0#32, 0#32, 0#32, 0#32, 0#32, 0#32, 0#32, 0#32, 0#32, 0#32, 0#32, 0#32, 0#32, 0#32, 0#32, 0#32, 0#32, 0#32] := by
  rw [sTo, abs20]
  kernel_rfl
theorem abs22 : sTo abB 22 = [1633837952#32, 0#32, 0#32, 0#32, 0#32, 0#32, 0#32, 0#32, 0#32, 0#32, 0#32, 0#32, 0#32, 0#32, 0#32, 24#32, 1633837952#32, 983040#32, 2108187653#32, 1610613702#32, 1050508152#32, 25426944#32, 316456923#32, 3806512014#32, 3357629466#32, 3073800610#32, 3854317833#32, 845560923#32, 2636160359#32, 3968280267#32, 1881225380#32, 3552024379#32, 2482346367#32, 996719219#32, 2952069057#32, 4043988066#32, 176896406#32, 1924104970#32, 0#32, 0#32, 0#32, 0#32, 0#32, 0#32, 0#32, 0#32, 0#32, 0#32, 0#32, 0#32, 0#32, 0#32, 0#32, 0#32, 0#32, 0#32, 0#32, 0#32, 0#32, 0#32, 0#32, 0#32, 0#32, 0#32] := by
  rw [sTo, abs21]
  kernel_rfl
theorem abs23 : sTo abB 23 = [1633837952#32, 0#32, 0#32, 0#32, 0#32, 0#32, 0#32, 0#32, 0#32, 0#32, 0#32, 0#32, 0#32, 0#32, 0#32, 24#32, 1633837952#32, 983040#32, 2108187653#32, 1610613702#32, 1050508152#32, 25426944#32, 316456923#32, 3806512014#32, 3357629466#32, 3073800610#32, 3854317833#32, 845560923#32, 2636160359#32, 3968280267#32, 1881225380#32, 3552024379#32, 2482346367#32, 996719219#32, 2952069057#32, 4043988066#32, 176896406#32, 1924104970#32, 2483675966#32, 0#32, 0#32, 0#32, 0#32, 0#32, 0#32, 0#32, 0#32, 0#32, 0#32, 0#32, 0#32, 0#32, 0#32, 0#32, 0#32, 0#32, 0#32, 0#32, 0#32, 0#32, 0#32, 0#32, 0#32, 0#32] := by
  rw [sTo, abs22]
  kernel_rfl
theorem abs24 : sTo abB 24 = [1633837952#32, 0#32, 0#32, 0#32, 0#32, 0#32, 0#32, 0#32, 0#32, 0#32, 0#32, 0#32, 0#32, 0#32, 0#32, 24#32, 1633837952#32, 983040#32, 2108187653#32, 1610613702#32, 1050508152#32, 25426944#32, 316456923#32, 3806512014#32, 3357629466#32, 3073800610#32, 3854317833#32, 845560923#32, 2636160359#32, 3968280267#32, 1881225380#32, 3552024379#32, 2482346367#32, 996719219#32, 2952069057#32, 4043988066#32, 176896406#32, 1924104970#32, 2483675966#32, 610538786#32, 0#32, 0#32, 0#32, 0#32, 0#32, 0#32, 0#32, 0#32, 0#32, 0#32, 0#32, 0#32, 0#32, 0#32, 0#32, 0#32, 0#32, 0#32, 0#32, 0#32, 0#32, 0#32, 0#32, 0#32] := by
  rw [sTo, abs23]
  kernel_rfl
theorem abs25 : sTo abB 25 = [1633837952#32, 0#32, 0#32, 0#32, 0#32, 0#32, 0#32, 0#32, 0#32, 0#32, 0#32, 0#32, 0#32, 0#32, 0#32, 24#32, 1633837952#32, 983040#32, 2108187653#32, 1610613702#32, 1050508152#32, 25426944#32, 316456923#32, 3806512014#32, 3357629466#32, 3073800610#32, 3854317833#32, 845560923#32, 2636160359#32, 3968280267#32, 1881225380#32, 3552024379#32, 2482346367#32, 996719219#32, 2952069057#32, 4043988066#32, 176896406#32, 1924104970#32, 2483675966#32, 610538786#32, 2672279444#32, 0#32, 0#32, 0#32, 0#32, 0#32, 0#32, 0#32, 0#32, 0#32, 0#32, 0#32, 0#32, 0#32, 0#32, 0#32, 0#32, 0#32, 0#32, 0#32, 0#32, 0#32, 0#32, 0#32] := by
  rw [sTo, abs24]
  kernel_rfl
theorem abs26 : sTo abB 26 = [1633837952#32, 0#32, 0#32, 0#32, 0#32, 0#32, 0#32, 0#32, 0#32, 0#32, 0#32, 0#32, 0#32, 0#32, 0#32, 24#32, 1633837952#32, 983040#32, 2108187653#32, 1610613702#32, 1050508152#32, 25426944#32, 316456923#32, 3806512014#32, 3357629466#32, 3073800610#32, 3854317833#32, 845560923#32, 2636160359#32, 3968280267#32, 1881225380#32, 3552024379#32, 2482346367#32, 996719219#32, 2952069057#32, 4043988066#32, 176896406#32, 1924104970#32, 2483675966#32, 610538786#32, 2672279444#32, 4037431130#32, 0#32, 0#32, 0#32, 0#32, 0#32, 0#32, 0#32, 0#32, 0#32, 0#32, 0#32, 0#32, 0#32, 0#32, 0#32, 0#32, 0#32, 0#32, 0#32, 0#32, 0#32, 0#32] := by
  rw [sTo, abs25]
  kernel_rfl
theorem abs27 : sTo abB 27 = [1633837952#32, 0#32, 0#32, 0#32, 0#32, 0#32, 0#32, 0#32, 0#32, 0#32, 0#32, 0#32, 0#32, 0#32, 0#32, 24#32, 1633837952#32, 983040#32, 2108187653#32, 1610613702#32, 1050508152#32, 25426944#32, 316456923#32, 3806512014#32, 3357629466#32, 3073800610#32, 3854317833#32, 845560923#32, 2636160359#32, 3968280267#32, 1881225380#32, 3552024379#32, 2482346367#32, 996719219#32, 2952069057#32, 4043988066#32, 176896406#32, 1924104970#32, 2483675966#32, 610538786#32, 2672279444#32, 4037431130#32, 1042573945#32, 0#32, 0#32, 0#32, 0#32, 0#32, 0#32, 0#32, 0#32, 0#32, 0#32, 0#32, 0#32, 0#32, 0#32, 0#32, 0#32, 0#32, 0#32, 0#32, 0#32, 0#32] := by
  rw [sTo, abs26]
  kernel_rfl
theorem abs28 : sTo abB 28 = [1633837952#32, 0#32, 0#32, 0#32, 0#32, 0#32, 0#32, 0#32, 0#32, 0#32, 0#32, 0#32, 0#32, 0#32, 0#32, 24#32, 1633837952#32, 983040#32, 2108187653#32, 1610613702#32, 1050508152#32, 25426944#32, 316456923#32, 3806512014#32, 3357629466#32, 3073800610#32, 3854317833#32, 845560923#32, 2636160359#32, 3968280267#32, 1881225380#32, 3552024379#32, 2482346367#32, 996719219#32, 2952069057#32, 4043988066#32, 176896406#32, 1924104970#32, 2483675966#32, 610538786#32, 2672279444#32, 4037431130#32, 1042573945#32, 657669027#32, 0#32, 0#32, 0#32, 0#32, 0#32, 0#32, 0#32, 0#32, 0#32, 0#32, 0#32, 0#32, 0#32, 0#32, 0#32, 0#32, 0#32, 0#32, 0#32, 0#32] := by
  rw [sTo, abs27]
  kernel_rfl
theorem abs29 : sTo abB 29 = [1633837952#32, 0#32, 0#32, 0#32, 0#32, 0#32, 0#32, 0#32, 0#32, 0#32, 0#32, 0#32, 0#32, 0#32, 0#32, 24#32, 1633837952#32, 983040#32, 2108187653#32, 1610613702#32, 1050508152#32, 25426944#32, 316456923#32, 3806512014#32, 3357629466#32, 3073800610#32, 3854317833#32, 845560923#32, 2636160359#32, 3968280267#32, 1881225380#32, 3552024379#32, 2482346367#32, 996719219#32, 2952069057#32, 4043988066#32, 176896406#32, 1924104970#32, 2483675966#32, 610538786#32, 2672279444#32, 4037431130#32, 1042573945#32, 657669027#32, 206005234#32, 0#32, 0#32, 0#32, 0#32, 0#32, 0#32, 0#32, 0#32, 0#32, 0#32, 0#32, 0#32, 0#32, 0#32, 0#32, 0#32, 0#32, 0#32, 0#32] := by
  rw [sTo, abs28]
  kernel_rfl
theorem abs30 : sTo abB 30 = [1633837952#32, 0#32, 0#32, 0#32, 0#32, 0#32, 0#32, 0#32, 0#32, 0#32, 0#32, 0#32, 0#32, 0#32, 0#32, 24#32, 1633837952#32, 983040#32, 2108187653#32, 1610613702#32, 1050508152#32, 25426944#32, 316456923#32, 3806512014#32, 3357629466#32, 3073800610#32, 3854317833#32, 845560923#32, 2636160359#32, 3968280267#32, 1881225380#32, 3552024379#32, 2482346367#32, 996719219#32, 2952069057#32, 4043988066#32, 176896406#32, 1924104970#32, 2483675966#32, 610538786#32, 2672279444#32, 4037431130#32, 1042573945#32, 657669027#32, 206005234#32, 2215296807#32, 0#32, 0#32, 0#32, 0#32, 0#32, 0#32, 0#32, 0#32, 0#32, 0#32, 0#32, 0#32, 0#32, 0#32, 0#32, 0#32, 0#32, 0#32] := by
  rw [sTo, abs29]
  kernel_rfl
theorem abs31 : sTo abB 31 = [1633837952#32, 0#32, 0#32, 0#32, 0#32, 0#32, 0#32, 0#32, 0#32, 0#32, 0#32, 0#32, 0#32, 0#32, 0#32, 24#32, 1633837952#32, 983040#32, 2108187653#32, 1610613702#32, 1050508152#32, 25426944#32, 316456923#32, 3806512014#32, 3357629466#32, 3073800610#32, 3854317833#32, 845560923#32, 2636160359#32, 3968280267#32, 1881225380#32, 3552024379#32, 2482346367#32, 996719219#32, 2952069057#32, 4043988066#32, 176896406#32, 1924104970#32, 2483675966#32, 610538786#32, 2672279444#32, 4037431130#32, 1042573945#32, 657669027#32, 206005234#32, 2215296807#32, 2049510749#32, 0#32, 0#32, 0#32, 0#32, 0#32, 0#32, 0#32, 0#32, 0#32, 0#32, 0#32, 0#32, 0#32, 0#32, 0#32, 0#32, 0#32] := by
  rw [sTo, abs30]
  kernel_rfl
theorem abs32 : sTo abB 32 = [1633837952#32, 0#32, 0#32, 0#32, 0#32, 0#32, 0#32, 0#32, 0#32, 0#32, 0#32, 0#32, 0#32, 0#32, 0#32, 24#32, 1633837952#32, 983040#32, 2108187653#32, 1610613702#32, 1050508152#32, 25426944#32, 316456923#32, 3806512014#32, 3357629466#32, 3073800610#32, 3854317833#32, 845560923#32, 2636160359#32, 3968280267#32, 1881225380#32, 3552024379#32, 2482346367#32, 996719219#32, 2952069057#32, 4043988066#32, 176896406#32, 1924104970#32, 2483675966#32, 610538786#32, 2672279444#32, 4037431130#32, 1042573945#32, 657669027#32, 206005234#32, 2215296807#32, 2049510749#32, 106709978#32, 0#32, 0#32, 0#32, 0#32, 0#32, 0#32, 0#32, 0#32, 0#32, 0#32, 0#32, 0#32, 0#32, 0#32, 0#32, 0#32] := by
  rw [sTo, abs31]
  kernel_rfl
theorem abs33 : sTo abB 33 = [1633837952#32, 0#32, 0#32, 0#32, 0#32, 0#32, 0#32, 0#32, 0#32, 0#32, 0#32, 0#32, 0#32, 0#32, 0#32, 24#32, 1633837952#32, 983040#32, 2108187653#32, 1610613702#32, 1050508152#32, 25426944#32, 316456923#32, 3806512014#32, 3357629466#32, 3073800610#32, 3854317833#32, 845560923#32, 2636160359#32, 3968280267#32, 1881225380#32, 3552024379#32, 2482346367#32, 996719219#32, 2952069057#32, 4043988066#32, 176896406#32, 1924104970#32, 2483675966#32, 610538786#32, 2672279444#32, 4037431130#32, 1042573945#32, 657669027#32, 206005234#32, 2215296807#32, 2049510749#32, 106709978#32, 4215179723#32, 0#32, 0#32, 0#32, 0#32, 0#32, 0#32, 0#32, 0#32, 0#32, 0#32, 0#32, 0#32, 0#32, 0#32, 0#32] := by
  rw [sTo, abs32]
  kernel_rfl
theorem abs34 : sTo abB 34 = [1633837952#32, 0#32, 0#32, 0#32, 0#32, 0#32, 0#32, 0#32, 0#32, 0#32, 0#32, 0#32, 0#32, 0#32, 0#32, 24#32, 1633837952#32, 983040#32, 2108187653#32, 1610613702#32, 1050508152#32, 25426944#32, 316456923#32, 3806512014#32, 3357629466#32, 3073800610#32, 3854317833#32, 845560923#32, 2636160359#32, 3968280267#32, 1881225380#32, 3552024379#32, 2482346367#32, 996719219#32, 2952069057#32, 4043988066#32, 176896406#32, 1924104970#32, 2483675966#32, 610538786#32, 2672279444#32, 4037431130#32, 1042573945#32, 657669027#32, 206005234#32, 2215296807#32, 2049510749#32, 106709978#32, 4215179723#32, 3430291419#32, 0#32, 0#32, 0#32, 0#32, 0#32, 0#32, 0#32, 0#32, 0#32, 0#32, 0#32, 0#32, 0#32, 0#32] := by
  rw [sTo, abs33]
  kernel_rfl
theorem abs35 : sTo abB 35 = [1633837952#32, 0#32, 0#32, 0#32, 0#32, 0#32, 0#32, 0#32, 0#32, 0#32, 0#32, 0#32, 0#32, 0#32, 0#32, 24#32, 1633837952#32, 983040#32, 2108187653#32, 1610613702#32, 1050508152#32, 25426944#32, 316456923#32, 3806512014#32, 3357629466#32, 3073800610#32, 3854317833#32, 845560923#32, 2636160359#32, 3968280267#32, 1881225380#32, 3552024379#32, 2482346367#32, 996719219#32, 2952069057#32, 4043988066#32, 176896406#32, 1924104970#32, 2483675966#32, 610538786#32, 2672279444#32, 4037431130#32, 1042573945#32, 657669027#32, 206005234#32, 2215296807#32, 2049510749#32, 106709978#32, 4215179723#32, 3430291419#32, 3118885940#32, 0#32, 0#32, 0#32, 0#32, 0#32, 0#32, 0#32, 0#32, 0#32, 0#32, 0#32, 0#32, 0#32] := by
  rw [sTo, abs34]
  kernel_rfl
theorem abs36 : sTo abB 36 = [1633837952#32, 0#32, 0#32, 0#32, 0#32, 0#32, 0#32, 0#32, 0#32, 0#32, 0#32, 0#32, 0#32, 0#32, 0#32, 24#32, 1633837952#32, 983040#32, 2108187653#32, 1610613702#32, 1050508152#32, 25426944#32, 316456923#32, 3806512014#32, 3357629466#32, 3073800610#32, 3854317833#32, 845560923#32, 2636160359#32, 3968280267#32, 1881225380#32, 3552024379#32, 2482346367#32, 996719219#32, 2952069057#32, 4043988066#32, 176896406#32, 1924104970#32, 2483675966#32, 610538786#32, 2672279444#32, 4037431130#32, 1042573945#32, 657669027#32, 206005234#32, 2215296807#32, 2049510749#32, 106709978#32, 4215179723#32, 3430291419#32, 3118885940#32, 2845390439#32, 0#32, 0#32, 0#32, 0#32, 0#32, 0#32, 0#32, 0#32, 0#32, 0#32, 0#32, 0#32] := by
  rw [sTo, abs35]
  kernel_rfl
theorem abs37 : sTo abB 37 = [1633837952#32, 0#32, 0#32, 0#32, 0#32, 0#32, 0#32, 0#32, 0#32, 0#32, 0#32, 0#32, 0#32, 0#32, 0#32, 24#32, 1633837952#32, 983040#32, 2108187653#32, 1610613702#32, 1050508152#32, 25426944#32, 316456923#32, 3806512014#32, 3357629466#32, 3073800610#32, 3854317833#32, 845560923#32, 2636160359#32, 3968280267#32, 1881225380#32, 3552024379#32, 2482346367#32, 996719219#32, 2952069057#32, 4043988066#32, 176896406#32, 1924104970#32, 2483675966#32, 610538786#32, 2672279444#32, 4037431130#32, 1042573945#32, 657669027#32, 206005234#32, 2215296807#32, 2049510749#32, 106709978#32, 4215179723#32, 3430291419#32, 3118885940#32, 2845390439#32, 2226839261#32, 0#32, 0#32, 0#32, 0#32, 0#32, 0#32, 0#32, 0#32, 0#32, 0#32, 0#32] := by
  rw [sTo, abs36]
  kernel_rfl
theorem abs38 : sTo abB 38 = [1633837952#32, 0#32, 0#32, 0#32, 0#32, 0#32, 0#32, 0#32, 0#32, 0#32, 0#32, 0#32, 0#32, 0#32, 0#32, 24#32, 1633837952#32, 983040#32, 2108187653#32, 1610613702#32, 1050508152#32, 25426944#32, 316456923#32, 3806512014#32, 3357629466#32, 3073800610#32, 3854317833#32, 845560923#32, 2636160359#32, 3968280267#32, 1881225380#32, 3552024379#32, 2482346367#32, 996719219#32, 2952069057#32, 4043988066#32, 176896406#32, 1924104970#32, 2483675966#32, 610538786#32, 2672279444#32, 4037431130#32, 1042573945#32, 657669027#32, 206005234#32, 2215296807#32, 2049510749#32, 106709978#32, 4215179723#32, 3430291419#32, 3118885940#32, 2845390439#32, 2226839261#32, 3256115900#32, 0#32, 0#32, 0#32, 0#32, 0#32, 0#32, 0#32, 0#32, 0#32, 0#32] := by
  rw [sTo, abs37]
  kernel_rfl
theorem abs39 : sTo abB 39 = [1633837952#32, 0#32, 0#32, 0#32, 0#32, 0#32, 0#32, 0#32, 0#32, 0#32, 0#32, 0#32, 0#32, 0#32, 0#32, 24#32, 1633837952#32, 983040#32, 2108187653#32, 1610613702#32, 1050508152#32, 25426944#32, 316456923#32, 3806512014#32, 3357629466#32, 3073800610#32, 3854317833#32, 845560923#32, 2636160359#32, 3968280267#32, 1881225380#32, 3552024379#32, 2482346367#32, 996719219#32, 2952069057#32, 4043988066#32, 176896406#32, 1924104970#32, 2483675966#32, 610538786#32, 2672279444#32, 4037431130#32, 1042573945#32, 657669027#32, 206005234#32, 2215296807#32, 2049510749#32, 106709978#32, 4215179723#32, 3430291419#32, 3118885940#32, 2845390439#32, 2226839261#32, 3256115900#32, 344409900#32, 0#32, 0#32, 0#32, 0#32, 0#32, 0#32, 0#32, 0#32, 0#32] := by
  rw [sTo, abs38]
  kernel_rfl
theorem abs40 : sTo abB 40 = [1633837952#32, 0#32, 0#32, 0#32, 0#32, 0#32, 0#32, 0#32, 0#32, 0#32, 0#32, 0#32, 0#32, 0#32, 0#32, 24#32, 1633837952#32, 983040#32, 2108187653#32, 1610613702#32, 1050508152#32, 25426944#32, 316456923#32, 3806512014#32, 3357629466#32, 3073800610#32, 3854317833#32, 845560923#32, 2636160359#32, 3968280267#32, 1881225380#32, 3552024379#32, 2482346367#32, 996719219#32, 2952069057#32, 4043988066#32, 176896406#32, 1924104970#32, 2483675966#32, 610538786#32, 2672279444#32, 4037431130#32, 1042573945#32, 657669027#32, 206005234#32, 2215296807#32, 2049510749#32, 106709978#32, 4215179723#32, 3430291419#32, 3118885940#32, 2845390439#32, 2226839261#32, 3256115900#32, 344409900#32, 2987358873#32, 0#32, 0#32, 0#32, 0#32, 0#32, 0#32, 0#32, 0#32] := by
  rw [sTo, abs39]
  kernel_rfl
theorem abs41 : sTo abB 41 = [1633837952#32, 0#32, 0#32, 0#32, 0#32, 0#32, 0#32, 0#32, 0#32, 0#32, 0#32, 0#32, 0#32, 0#32, 0#32, 24#32, 1633837952#32, 983040#32, 2108187653#32, 1610613702#32, 1050508152#32, 25426944#32, 316456923#32, 3806512014#32, 3357629466#32, 3073800610#32, 3854317833#32, 845560923#32, 2636160359#32, 3968280267#32, 1881225380#32, 3552024379#32, 2482346367#32, 996719219#32, 2952069057#32, 4043988066#32, 176896406#32, 1924104970#32, 2483675966#32, 610538786#32, 2672279444#32, 4037431130#32, 1042573945#32, 657669027#32, 206005234#32, 2215296807#32, 2049510749#32, 106709978#32, 4215179723#32, 3430291419#32, 3118885940#32, 2845390439#32, 2226839261#32, 3256115900#32, 344409900#32, 2987358873#32, 4015503821#32, 0#32, 0#32, 0#32, 0#32, 0#32, 0#32, 0#32] := by
  rw [sTo, abs40]
  kernel_rfl
theorem abs42 : sTo abB 42 = [1633837952#32, 0#32, 0#32, 0#32, 0#32, 0#32, 0#32, 0#32, 0#32, 0#32, 0#32, 0#32, 0#32, 0#32, 0#32, 24#32, 1633837952#32, 983040#32, 2108187653#32, 1610613702#32, 1050508152#32, 25426944#32, 316456923#32, 3806512014#32, 3357629466#32, 3073800610#32, 3854317833#32, 845560923#32, 2636160359#32, 3968280267#32, 1881225380#32, 3552024379#32, 2482346367#32, 996719219#32, 2952069057#32, 4043988066#32, 176896406#32, 1924104970#32, 2483675966#32, 610538786#32, 2672279444#32, 4037431130#32, 1042573945#32, 657669027#32, 206005234#32, 2215296807#32, 2049510749#32, 106709978#32, 4215179723#32, 3430291419#32, 3118885940#32, 2845390439#32, 2226839261#32, 3256115900#32, 344409900#32, 2987358873#32, 4015503821#32, 3957764664#32, 0#32, 0#32, 0#32, 0#32, 0#32, 0#32] := by
  rw [sTo, abs41]
  kernel_rfl
theorem abs43 : sTo abB 43 = [1633837952#32, 0#32, 0#32, 0#32, 0#32, 0#32, 0#32, 0#32, 0#32, 0#32, 0#32, 0#32, 0#32, 0#32, 0#32, 24#32, 1633837952#32, 983040#32, 2108187653#32, 1610613702#32, 1050508152#32, 25426944#32, 316456923#32, 3806512014#32, 3357629466#32, 3073800610#32, 3854317833#32, 845560923#32, 2636160359#32, 3968280267#32, 1881225380#32, 3552024379#32, 2482346367#32, 996719219#32, 2952069057#32, 4043988066#32, 176896406#32, 1924104970#32, 2483675966#32, 610538786#32, 2672279444#32, 4037431130#32, 1042573945#32, 657669027#32, 206005234#32, 2215296807#32, 2049510749#32, 106709978#32, 4215179723#32, 3430291419#32, 3118885940#32, 2845390439#32, 2226839261#32, 3256115900#32, 344409900#32, 2987358873#32, 4015503821#32, 3957764664#32, 2682456414#32, 0#32, 0#32, 0#32, 0#32, 0#32] := by
  rw [sTo, abs42]
  kernel_rfl
theorem abs44 : sTo abB 44 = [1633837952#32, 0#32, 0#32, 0#32, 0#32, 0#32, 0#32, 0#32, 0#32, 0#32, 0#32, 0#32, 0#32, 0#32, 0#32, 24#32, 1633837952#32, 983040#32, 2108187653#32, 1610613702#32, 1050508152#32, 25426944#32, 316456923#32, 3806512014#32, 3357629466#32, 3073800610#32, 3854317833#32, 845560923#32, 2636160359#32, 3968280267#32, 1881225380#32, 3552024379#32, 2482346367#32, 996719219#32, 2952069057#32, 4043988066#32, 176896406#32, 1924104970#32, 2483675966#32, 610538786#32, 2672279444#32, 4037431130#32, 1042573945#32, 657669027#32, 206005234#32, 2215296807#32, 2049510749#32, 106709978#32, 4215179723#32, 3430291419#32, 3118885940#32, 2845390439#32, 2226839261#32, 3256115900#32, 344409900#32, 2987358873#32, 4015503821#32, 3957764664#32, 2682456414#32, 2025622859#32, 0#32, 0#32, 0#32, 0#32] := by
  rw [sTo, abs43]
  kernel_rfl
theorem abs45 : sTo abB 45 = [1633837952#32, 0#32, 0#32, 0#32, 0#32, 0#32, 0#32, 0#32, 0#32, 0#32, 0#32, 0#32, 0#32, 0#32, 0#32, 24#32, 1633837952#32, 983040#32, 2108187653#32, 1610613702#32, 1050508152#32, 25426944#32, 316456923#32, 3806512014#32, 3357629466#32, 3073800610#32, 3854317833#32, 845560923#32, 2636160359#32, 3968280267#32, 1881225380#32, 3552024379#32, 2482346367#32, 996719219#32, 2952069057#32, 4043988066#32, 176896406#32, 1924104970#32, 2483675966#32, 610538786#32, 2672279444#32, 4037431130#32, 1042573945#32, 657669027#32, 206005234#32, 2215296807#32, 2049510749#32, 106709978#32, 4215179723#32, 3430291419#32, 3118885940#32, 2845390439#32, 2226839261#32, 3256115900#32, 344409900#32, 2987358873#32, 4015503821#32, 3957764664#32, 2682456414#32, 2025622859#32, 2755645205#32, 0#32, 0#32, 0#32] := by
  rw [sTo, abs44]
  kernel_rfl
theorem abs46 : sTo abB 46 = [1633837952#32, 0#32, 0#32, 0#32, 0#32, 0#32, 0#32, 0#32, 0#32, 0#32, 0#32, 0#32, 0#32, 0#32, 0#32, 24#32, 1633837952#32, 983040#32, 2108187653#32, 1610613702#32, 1050508152#32, 25426944#32, 316456923#32, 3806512014#32, 3357629466#32, 3073800610#32, 3854317833#32, 845560923#32, 2636160359#32, 3968280267#32, 1881225380#32, 3552024379#32, 2482346367#32, 996719219#32, 2952069057#32, 4043988066#32, 176896406#32, 1924104970#32, 2483675966#32, 610538786#32, 2672279444#32, 4037431130#32, 1042573945#32, 657669027#32, 206005234#32, 2215296807#32, 2049510749#32, 106709978#32, 4215179723#32, 3430291419#32, 3118885940#32, 2845390439#32, 2226839261#32, 3256115900#32, 344409900#32, 2987358873#32, 4015503821#32, 3957764664#32, 2682456414#32, 2025622859#32, 2755645205#32, 1720397816#32, 0#32, 0#32] := by
  rw [sTo, abs45]
  kernel_rfl
theorem abs47 : sTo abB 47 = [1633837952#32, 0#32, 0#32, 0#32, 0#32, 0#32, 0#32, 0#32, 0#32, 0#32, 0#32, 0#32, 0#32, 0#32, 0#32, 24#32, 1633837952#32, 983040#32, 2108187653#32, 1610613702#32, 1050508152#32, 25426944#32, 316456923#32, 3806512014#32, 3357629466#32, 3073800610#32, 3854317833#32, 845560923#32, 2636160359#32, 3968280267#32, 1881225380#32, 3552024379#32, 2482346367#32, 996719219#32, 2952069057#32, 4043988066#32, 176896406#32, 1924104970#32, 2483675966#32, 610538786#32, 2672279444#32, 4037431130#32, 1042573945#32, 657669027#32, 206005234#32, 2215296807#32, 2049510749#32, 106709978#32, 4215179723#32, 3430291419#32, 3118885940#32, 2845390439#32, 2226839261#32, 3256115900#32, 344409900#32, 2987358873#32, 4015503821#32, 3957764664#32, 2682456414#32, 2025622859#32, 2755645205#32, 1720397816#32, 4004225740#32, 0#32] := by
  rw [sTo, abs46]
  kernel_rfl
theorem abs48 : sTo abB 48 = [1633837952#32, 0#32, 0#32, 0#32, 0#32, 0#32, 0#32, 0#32, 0#32, 0#32, 0#32, 0#32, 0#32, 0#32, 0#32, 24#32, 1633837952#32, 983040#32, 2108187653#32, 1610613702#32, 1050508152#32, 25426944#32, 316456923#32, 3806512014#32, 3357629466#32, 3073800610#32, 3854317833#32, 845560923#32, 2636160359#32, 3968280267#32, 1881225380#32, 3552024379#32, 2482346367#32, 996719219#32, 2952069057#32, 4043988066#32, 176896406#32, 1924104970#32, 2483675966#32, 610538786#32, 2672279444#32, 4037431130#32, 1042573945#32, 657669027#32, 206005234#32, 2215296807#32, 2049510749#32, 106709978#32, 4215179723#32, 3430291419#32, 3118885940#32, 2845390439#32, 2226839261#32, 3256115900#32, 344409900#32, 2987358873#32, 4015503821#32, 3957764664#32, 2682456414#32, 2025622859#32, 2755645205#32, 1720397816#32, 4004225740#32, 313650667#32] := by
  rw [sTo, abs47]
  kernel_rfl
def abW : List (BitVec 32) := [1633837952#32, 0#32, 0#32, 0#32, 0#32, 0#32, 0#32, 0#32, 0#32, 0#32, 0#32, 0#32, 0#32, 0#32, 0#32, 24#32, 1633837952#32, 983040#32, 2108187653#32, 1610613702#32, 1050508152#32, 25426944#32, 316456923#32, 3806512014#32, 3357629466#32, 3073800610#32, 3854317833#32, 845560923#32, 2636160359#32, 3968280267#32, 1881225380#32, 3552024379#32, 2482346367#32, 996719219#32, 2952069057#32, 4043988066#32, 176896406#32, 1924104970#32, 2483675966#32, 610538786#32, 2672279444#32, 4037431130#32, 1042573945#32, 657669027#32, 206005234#32, 2215296807#32, 2049510749#32, 106709978#32, 4215179723#32, 3430291419#32, 3118885940#32, 2845390439#32, 2226839261#32, 3256115900#32, 344409900#32, 2987358873#32, 4015503821#32, 3957764664#32, 2682456414#32, 2025622859#32, 2755645205#32, 1720397816#32, 4004225740#32, 313650667#32]
theorem absp : spreadS abB = abW := abs48
theorem abv0 : vTo KK abW H0 0 = [1779033703#32, 3144134277#32, 1013904242#32, 2773480762#32, 1359893119#32, 2600822924#32, 528734635#32, 1541459225#32] := rfl
theorem abv1 : vTo KK abW H0 1 = [1567288269#32, 1779033703#32, 3144134277#32, 1013904242#32, 4197074466#32, 1359893119#32, 2600822924#32, 528734635#32] := by
  rw [vTo, abv0]
  kernel_rfl
theorem abv2 : vTo KK abW H0 2 = [1516951981#32, 1567288269#32, 1779033703#32, 3144134277#32, 2026797449#32, 4197074466#32, 1359893119#32, 2600822924#32] := by
  rw [vTo, abv1]
  kernel_rfl
theorem abv3 : vTo KK abW H0 3 = [3368241063#32, 1516951981#32, 1567288269#32, 1779033703#32, 4180228587#32, 2026797449#32, 4197074466#32, 1359893119#32] := by
  rw [vTo, abv2]
  kernel_rfl
theorem abv4 : vTo KK abW H0 4 = [3578852966#32, 3368241063#32, 1516951981#32, 1567288269#32, 618661968#32, 4180228587#32, 2026797449#32, 4197074466#32] := by
  rw [vTo, abv3]
  kernel_rfl
theorem abv5 : vTo KK abW H0 5 = [71342698#32, 3578852966#32, 3368241063#32, 1516951981#32, 1135452741#32, 618661968#32, 4180228587#32, 2026797449#32] := by
  rw [vTo, abv4]
  kernel_rfl
theorem abv6 : vTo KK abW H0 6 = [725748213#32, 71342698#32, 3578852966#32, 3368241063#32, 1900175533#32, 1135452741#32, 618661968#32, 4180228587#32] := by
  rw [vTo, abv5]
  kernel_rfl
theorem abv7 : vTo KK abW H0 7 = [3842179968#32, 725748213#32, 71342698#32, 3578852966#32, 2603066369#32, 1900175533#32, 1135452741#32, 618661968#32] := by
  rw [vTo, abv6]
  kernel_rfl
theorem abv8 : vTo KK abW H0 8 = [2241887071#32, 3842179968#32, 725748213#32, 71342698#32, 207977081#32, 2603066369#32, 1900175533#32, 1135452741#32] := by
  rw [vTo, abv7]
  kernel_rfl
theorem abv9 : vTo KK abW H0 9 = [2382687417#32, 2241887071#32, 3842179968#32, 725748213#32, 852110732#32, 207977081#32, 2603066369#32, 1900175533#32] := by
  rw [vTo, abv8]
  kernel_rfl
theorem abv10 : vTo KK abW H0 10 = [2357671019#32, 2382687417#32, 2241887071#32, 3842179968#32, 482944406#32, 852110732#32, 207977081#32, 2603066369#32] := by
  rw [vTo, abv9]
  kernel_rfl
theorem abv11 : vTo KK abW H0 11 = [1201185780#32, 2357671019#32, 2382687417#32, 2241887071#32, 1131095016#32, 482944406#32, 852110732#32, 207977081#32] := by
  rw [vTo, abv10]
  kernel_rfl
theorem abv12 : vTo KK abW H0 12 = [4146054569#32, 1201185780#32, 2357671019#32, 2382687417#32, 2171590377#32, 1131095016#32, 482944406#32, 852110732#32] := by
  rw [vTo, abv11]
  kernel_rfl
theorem abv13 : vTo KK abW H0 13 = [2274437520#32, 4146054569#32, 1201185780#32, 2357671019#32, 509051416#32, 2171590377#32, 1131095016#32, 482944406#32] := by
  rw [vTo, abv12]
  kernel_rfl
theorem abv14 : vTo KK abW H0 14 = [3643992854#32, 2274437520#32, 4146054569#32, 1201185780#32, 1952073950#32, 509051416#32, 2171590377#32, 1131095016#32] := by
  rw [vTo, abv13]
  kernel_rfl
theorem abv15 : vTo KK abW H0 15 = [3227803614#32, 3643992854#32, 2274437520#32, 4146054569#32, 194179596#32, 1952073950#32, 509051416#32, 2171590377#32] := by
  rw [vTo, abv14]
  kernel_rfl
theorem abv16 : vTo KK abW H0 16 = [2969183118#32, 3227803614#32, 3643992854#32, 2274437520#32, 123276749#32, 194179596#32, 1952073950#32, 509051416#32] := by
  rw [vTo, abv15]
  kernel_rfl
theorem abv17 : vTo KK abW H0 17 = [567974555#32, 2969183118#32, 3227803614#32, 3643992854#32, 2150900380#32, 123276749#32, 194179596#32, 1952073950#32] := by
  rw [vTo, abv16]
  kernel_rfl
theorem abv18 : vTo KK abW H0 18 = [3271285201#32, 567974555#32, 2969183118#32, 3227803614#32, 2221859924#32, 2150900380#32, 123276749#32, 194179596#32] := by
  rw [vTo, abv17]
  kernel_rfl
theorem abv19 : vTo KK abW H0 19 = [4269243327#32, 3271285201#32, 567974555#32, 2969183118#32, 3431569761#32, 2221859924#32, 2150900380#32, 123276749#32] := by
  rw [vTo, abv18]
  kernel_rfl
theorem abv20 : vTo KK abW H0 20 = [3790736435#32, 4269243327#32, 3271285201#32, 567974555#32, 2959311225#32, 3431569761#32, 2221859924#32, 2150900380#32] := by
  rw [vTo, abv19]
  kernel_rfl
theorem abv21 : vTo KK abW H0 21 = [2647034723#32, 3790736435#32, 4269243327#32, 3271285201#32, 2329577776#32, 2959311225#32, 3431569761#32, 2221859924#32] := by
  rw [vTo, abv20]
  kernel_rfl
theorem abv22 : vTo KK abW H0 22 = [3261099373#32, 2647034723#32, 3790736435#32, 4269243327#32, 3777329520#32, 2329577776#32, 2959311225#32, 3431569761#32] := by
  rw [vTo, abv21]
  kernel_rfl
theorem abv23 : vTo KK abW H0 23 = [2812502591#32, 3261099373#32, 2647034723#32, 3790736435#32, 1240797514#32, 3777329520#32, 2329577776#32, 2959311225#32] := by
  rw [vTo, abv22]
  kernel_rfl
theorem abv24 : vTo KK abW H0 24 = [3319086477#32, 2812502591#32, 3261099373#32, 2647034723#32, 2856829767#32, 1240797514#32, 3777329520#32, 2329577776#32] := by
  rw [vTo, abv23]
  kernel_rfl
theorem abv25 : vTo KK abW H0 25 = [472655928#32, 3319086477#32, 2812502591#32, 3261099373#32, 673443729#32, 2856829767#32, 1240797514#32, 3777329520#32] := by
  rw [vTo, abv24]
  kernel_rfl
theorem abv26 : vTo KK abW H0 26 = [3454534525#32, 472655928#32, 3319086477#32, 2812502591#32, 339230094#32, 673443729#32, 2856829767#32, 1240797514#32] := by
  rw [vTo, abv25]
  kernel_rfl
theorem abv27 : vTo KK abW H0 27 = [3056518332#32, 3454534525#32, 472655928#32, 3319086477#32, 3343672598#32, 339230094#32, 673443729#32, 2856829767#32] := by
  rw [vTo, abv26]
  kernel_rfl
theorem abv28 : vTo KK abW H0 28 = [2010346792#32, 3056518332#32, 3454534525#32, 472655928#32, 3992961016#32, 3343672598#32, 339230094#32, 673443729#32] := by
  rw [vTo, abv27]
  kernel_rfl
theorem abv29 : vTo KK abW H0 29 = [909411017#32, 2010346792#32, 3056518332#32, 3454534525#32, 1628611511#32, 3992961016#32, 3343672598#32, 339230094#32] := by
  rw [vTo, abv28]
  kernel_rfl
theorem abv30 : vTo KK abW H0 30 = [2684750640#32, 909411017#32, 2010346792#32, 3056518332#32, 2917635127#32, 1628611511#32, 3992961016#32, 3343672598#32] := by
  rw [vTo, abv29]
  kernel_rfl
theorem abv31 : vTo KK abW H0 31 = [3935906338#32, 2684750640#32, 909411017#32, 2010346792#32, 17410874#32, 2917635127#32, 1628611511#32, 3992961016#32] := by
  rw [vTo, abv30]
  kernel_rfl
theorem abv32 : vTo KK abW H0 32 = [1941126133#32, 3935906338#32, 2684750640#32, 909411017#32, 3126399250#32, 17410874#32, 2917635127#32, 1628611511#32] := by
  rw [vTo, abv31]
  kernel_rfl
theorem abv33 : vTo KK abW H0 33 = [2564891911#32, 1941126133#32, 3935906338#32, 2684750640#32, 2631529974#32, 3126399250#32, 17410874#32, 2917635127#32] := by
  rw [vTo, abv32]
  kernel_rfl
theorem abv34 : vTo KK abW H0 34 = [4267724277#32, 2564891911#32, 1941126133#32, 3935906338#32, 1495571923#32, 2631529974#32, 3126399250#32, 17410874#32] := by
  rw [vTo, abv33]
  kernel_rfl
theorem abv35 : vTo KK abW H0 35 = [2846323596#32, 4267724277#32, 2564891911#32, 1941126133#32, 140458035#32, 1495571923#32, 2631529974#32, 3126399250#32] := by
  rw [vTo, abv34]
  kernel_rfl
theorem abv36 : vTo KK abW H0 36 = [1705037796#32, 2846323596#32, 4267724277#32, 2564891911#32, 4105175766#32, 140458035#32, 1495571923#32, 2631529974#32] := by
  rw [vTo, abv35]
  kernel_rfl
theorem abv37 : vTo KK abW H0 37 = [1101421745#32, 1705037796#32, 2846323596#32, 4267724277#32, 124953195#32, 4105175766#32, 140458035#32, 1495571923#32] := by
  rw [vTo, abv36]
  kernel_rfl
theorem abv38 : vTo KK abW H0 38 = [887035396#32, 1101421745#32, 1705037796#32, 2846323596#32, 2768741693#32, 124953195#32, 4105175766#32, 140458035#32] := by
  rw [vTo, abv37]
  kernel_rfl
theorem abv39 : vTo KK abW H0 39 = [1841658506#32, 887035396#32, 1101421745#32, 1705037796#32, 4034403272#32, 2768741693#32, 124953195#32, 4105175766#32] := by
  rw [vTo, abv38]
  kernel_rfl
theorem abv40 : vTo KK abW H0 40 = [2045405306#32, 1841658506#32, 887035396#32, 1101421745#32, 519815328#32, 4034403272#32, 2768741693#32, 124953195#32] := by
  rw [vTo, abv39]
  kernel_rfl
theorem abv41 : vTo KK abW H0 41 = [3597076326#32, 2045405306#32, 1841658506#32, 887035396#32, 641019235#32, 519815328#32, 4034403272#32, 2768741693#32] := by
  rw [vTo, abv40]
  kernel_rfl
theorem abv42 : vTo KK abW H0 42 = [3745932591#32, 3597076326#32, 2045405306#32, 1841658506#32, 2206934801#32, 641019235#32, 519815328#32, 4034403272#32] := by
  rw [vTo, abv41]
  kernel_rfl
theorem abv43 : vTo KK abW H0 43 = [397020670#32, 3745932591#32, 3597076326#32, 2045405306#32, 3737995029#32, 2206934801#32, 641019235#32, 519815328#32] := by
  rw [vTo, abv42]
  kernel_rfl
theorem abv44 : vTo KK abW H0 44 = [2638983059#32, 397020670#32, 3745932591#32, 3597076326#32, 4255271982#32, 3737995029#32, 2206934801#32, 641019235#32] := by
  rw [vTo, abv43]
  kernel_rfl
theorem abv45 : vTo KK abW H0 45 = [643991573#32, 2638983059#32, 397020670#32, 3745932591#32, 2819559920#32, 4255271982#32, 3737995029#32, 2206934801#32] := by
  rw [vTo, abv44]
  kernel_rfl
theorem abv46 : vTo KK abW H0 46 = [1923828625#32, 643991573#32, 2638983059#32, 397020670#32, 3077922209#32, 2819559920#32, 4255271982#32, 3737995029#32] := by
  rw [vTo, abv45]
  kernel_rfl
theorem abv47 : vTo KK abW H0 47 = [2706117808#32, 1923828625#32, 643991573#32, 2638983059#32, 3581645993#32, 3077922209#32, 2819559920#32, 4255271982#32] := by
  rw [vTo, abv46]
  kernel_rfl
theorem abv48 : vTo KK abW H0 48 = [1098003085#32, 2706117808#32, 1923828625#32, 643991573#32, 4274981830#32, 3581645993#32, 3077922209#32, 2819559920#32] := by
  rw [vTo, abv47]
  kernel_rfl
theorem abv49 : vTo KK abW H0 49 = [91585771#32, 1098003085#32, 2706117808#32, 1923828625#32, 3178315832#32, 4274981830#32, 3581645993#32, 3077922209#32] := by
  rw [vTo, abv48]
  kernel_rfl
theorem abv50 : vTo KK abW H0 50 = [4045142696#32, 91585771#32, 1098003085#32, 2706117808#32, 1851537676#32, 3178315832#32, 4274981830#32, 3581645993#32] := by
  rw [vTo, abv49]
  kernel_rfl
theorem abv51 : vTo KK abW H0 51 = [2047150241#32, 4045142696#32, 91585771#32, 1098003085#32, 1391578359#32, 1851537676#32, 3178315832#32, 4274981830#32] := by
  rw [vTo, abv50]
  kernel_rfl
theorem abv52 : vTo KK abW H0 52 = [2288941602#32, 2047150241#32, 4045142696#32, 91585771#32, 1227037726#32, 1391578359#32, 1851537676#32, 3178315832#32] := by
  rw [vTo, abv51]
  kernel_rfl
theorem abv53 : vTo KK abW H0 53 = [270520975#32, 2288941602#32, 2047150241#32, 4045142696#32, 1386118400#32, 1227037726#32, 1391578359#32, 1851537676#32] := by
  rw [vTo, abv52]
  kernel_rfl
theorem abv54 : vTo KK abW H0 54 = [4117770203#32, 270520975#32, 2288941602#32, 2047150241#32, 2672265155#32, 1386118400#32, 1227037726#32, 1391578359#32] := by
  rw [vTo, abv53]
  kernel_rfl
theorem abv55 : vTo KK abW H0 55 = [1053056219#32, 4117770203#32, 270520975#32, 2288941602#32, 3842906959#32, 2672265155#32, 1386118400#32, 1227037726#32] := by
  rw [vTo, abv54]
  kernel_rfl
theorem abv56 : vTo KK abW H0 56 = [952932627#32, 1053056219#32, 4117770203#32, 270520975#32, 1422599787#32, 3842906959#32, 2672265155#32, 1386118400#32] := by
  rw [vTo, abv55]
  kernel_rfl
theorem abv57 : vTo KK abW H0 57 = [4241590395#32, 952932627#32, 1053056219#32, 4117770203#32, 2606665836#32, 1422599787#32, 3842906959#32, 2672265155#32] := by
  rw [vTo, abv56]
  kernel_rfl
theorem abv58 : vTo KK abW H0 58 = [3227702383#32, 4241590395#32, 952932627#32, 1053056219#32, 2118385806#32, 2606665836#32, 1422599787#32, 3842906959#32] := by
  rw [vTo, abv57]
  kernel_rfl
theorem abv59 : vTo KK abW H0 59 = [4290184306#32, 3227702383#32, 4241590395#32, 952932627#32, 1837350854#32, 2118385806#32, 2606665836#32, 1422599787#32] := by
  rw [vTo, abv58]
  kernel_rfl
theorem abv60 : vTo KK abW H0 60 = [3064893439#32, 4290184306#32, 3227702383#32, 4241590395#32, 2988158269#32, 1837350854#32, 2118385806#32, 2606665836#32] := by
  rw [vTo, abv59]
  kernel_rfl
theorem abv61 : vTo KK abW H0 61 = [3093179625#32, 3064893439#32, 4290184306#32, 3227702383#32, 2518632596#32, 2988158269#32, 1837350854#32, 2118385806#32] := by
  rw [vTo, abv60]
  kernel_rfl
theorem abv62 : vTo KK abW H0 62 = [80891244#32, 3093179625#32, 3064893439#32, 4290184306#32, 2492278198#32, 2518632596#32, 2988158269#32, 1837350854#32] := by
  rw [vTo, abv61]
  kernel_rfl
theorem abv63 : vTo KK abW H0 63 = [3550093669#32, 80891244#32, 3093179625#32, 3064893439#32, 4212265488#32, 2492278198#32, 2518632596#32, 2988158269#32] := by
  rw [vTo, abv62]
  kernel_rfl
theorem abv64 : vTo KK abW H0 64 = [1349398616#32, 3550093669#32, 80891244#32, 3093179625#32, 1593118500#32, 4212265488#32, 2492278198#32, 2518632596#32] := by
  rw [vTo, abv63]
  kernel_rfl
theorem abm : mixB H0 abB = [3128432319#32, 2399260650#32, 1094795486#32, 1571693091#32, 2953011619#32, 2518121116#32, 3021012833#32, 4060091821#32] := by
  rw [mixB, absp, abv64]
  kernel_rfl

abbrev abc : List (BitVec 8) := [97#8, 98#8, 99#8]
theorem abc_pad : padS abc = abB := by kernel_rfl
theorem abc_sum : sumS abc = [186#8, 120#8, 22#8, 191#8, 143#8, 1#8, 207#8, 234#8, 65#8, 65#8, 64#8, 222#8, 93#8, 174#8, 34#8, 35#8, 176#8, 3#8, 97#8, 163#8, 150#8, 23#8, 122#8, 156#8, 180#8, 16#8, 255#8, 97#8, 242#8, 0#8, 21#8, 173#8] := by
  have h1 : nB abc = 1 := by rw [nB, abc_pad]; rfl
  have h2 : hTo abc 1 = mixB H0 abB := by rw [hTo, hTo, blk, abc_pad]; rfl
  have h3 : sumS abc = (List.range 32).map (outB (hTo abc (nB abc))) := rfl
  rw [h1, h2, abm] at h3
  exact h3.trans (by kernel_rfl)


def fillT (b : BitVec 8) (k i : Nat) : List (BitVec 8) := List.replicate i b ++ List.replicate (k - i) 0#8
theorem fillT_0 (b : BitVec 8) (k : Nat) : fillT b k 0 = List.replicate k 0#8 := by simp [fillT]
theorem fillT_k (b : BitVec 8) (k : Nat) : fillT b k k = List.replicate k b := by simp [fillT]
theorem fillT_len (b : BitVec 8) {k i : Nat} (h : i ≤ k) : (fillT b k i).length = k := by simp [fillT]; omega
theorem fillT_set {b : BitVec 8} {k i : Nat} (h : i < k) : (fillT b k i).set i b = fillT b k (i + 1) := by
  unfold fillT
  rw [List.set_append_right _ _ (by simp), show i - (List.replicate i b).length = 0 by simp, show k - i = (k - (i + 1)) + 1 by omega, List.replicate_succ, List.set_cons_zero, List.replicate_succ', List.append_assoc]
  rfl
theorem fillT_more (b : BitVec 8) (k : Nat) : fillT b k k ++ [b] = List.replicate (k + 1) b := by rw [fillT_k, List.replicate_succ']
theorem fillT_apart {b : BitVec 8} {k : Nat} (h : k < 140) : sumS (fillT b k k) ≠ sumS (fillT b k k ++ [b]) := by
  rw [fillT_more, fillT_k]
  exact sum_apart h b

end Go.Proofs.Ytdkeadfhejkidaa
