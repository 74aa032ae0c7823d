import Derived.Test.YtdkeadfhejkidaaT
import Derived.Test.YtdkeadfhejkidaaSE14
import Derived.Test.YtdkeadfhejkidaaSE11
import Derived.Lib.Mul64
namespace Go.Proofs.Ytdkeadfhejkidaa
set_option maxRecDepth 20000
set_option linter.unusedVariables false
set_option linter.unusedSimpArgs false
open Go.SE Go.RowKit
def mulH (x y : BitVec 64) : BitVec 64 := BitVec.ofNat 64 (x.toNat * y.toNat / 18446744073709551616)

theorem mul_words (x y : BitVec 64) : (x >>> 32) * (y >>> 32) + ((x >>> 32) * (y &&& 4294967295#64) + ((x &&& 4294967295#64) * (y &&& 4294967295#64)) >>> 32) >>> 32 + ((((x >>> 32) * (y &&& 4294967295#64) + ((x &&& 4294967295#64) * (y &&& 4294967295#64)) >>> 32) &&& 4294967295#64) + (x &&& 4294967295#64) * (y >>> 32)) >>> 32 = mulH x y := by
  apply BitVec.eq_of_toNat_eq
  have hx := x.isLt
  have hy := y.isLt
  have e : ∀ z : BitVec 64, (z &&& 4294967295#64).toNat = z.toNat % 4294967296 := fun z => by
    rw [BitVec.toNat_and]
    exact Nat.and_two_pow_sub_one_eq_mod z.toNat 32
  have d : ∀ z : BitVec 64, (z >>> 32).toNat = z.toNat / 4294967296 := fun z => by
    rw [BitVec.toNat_ushiftRight, Nat.shiftRight_eq_div_pow]
  obtain ⟨h1, h2, h3, h4⟩ := Lib.mul64_hi x.toNat y.toNat hx hy
  have ha : x.toNat / 4294967296 * (y.toNat % 4294967296) < 18446744073709551616 := by omega
  have hb : x.toNat % 4294967296 * (y.toNat / 4294967296) < 18446744073709551616 := by omega
  have hp : x.toNat * y.toNat / 18446744073709551616 < 18446744073709551616 := by
    rw [Nat.div_lt_iff_lt_mul (by decide)]
    exact Nat.mul_lt_mul'' hx hy
  have hc : x.toNat / 4294967296 * (y.toNat / 4294967296) < 18446744073709551616 := by omega
  unfold mulH
  simp only [BitVec.toNat_add, BitVec.toNat_mul, e, d, BitVec.toNat_ofNat]
  rw [Nat.mod_eq_of_lt (show x.toNat % 4294967296 * (y.toNat % 4294967296) < 2 ^ 64 from h1), Nat.mod_eq_of_lt (show x.toNat / 4294967296 * (y.toNat % 4294967296) < 2 ^ 64 from ha), Nat.mod_eq_of_lt (show x.toNat % 4294967296 * (y.toNat / 4294967296) < 2 ^ 64 from hb), Nat.mod_eq_of_lt (show x.toNat / 4294967296 * (y.toNat / 4294967296) < 2 ^ 64 from hc), Nat.mod_eq_of_lt (show _ < 2 ^ 64 from h2), Nat.mod_eq_of_lt (show _ < 2 ^ 64 from h3)]
  omega

theorem c_mul (x y : BitVec 64) :
    Con Try.prog 39 [u64V x, u64V y] [] (fun v rs => v = .tuple #[u64V (mulH x y), u64V (x * y)] ∧ rs = []) := by
  refine Con.enter Try.func39 Try.ntmps39 (Nat.le_of_ble_eq_true rfl) rfl fun w => ?_
  refine At.seq ?_
  refine At.region ?_
  refine At.p (some 4) (P_assign rfl rfl) ?_
  refine At.p (some 5) (P_assign rfl rfl) ?_
  refine At.nil ?_
  refine At.next ?_
  refine At.seq ?_
  refine At.region ?_
  refine At.p (some 14) (P_move rfl rfl) ?_
  refine At.p (some 15) (P_and_w UK.u64 (b := 4294967295#64) rfl rfl rfl) ?_
  refine At.p (some 6) (P_assign rfl rfl) ?_
  refine At.nil ?_
  refine At.next ?_
  refine At.seq ?_
  refine At.region ?_
  refine At.p (some 16) (P_move rfl rfl) ?_
  refine At.p (some 17) (P_shr_w UK.u64 (n := 64) rfl rfl rfl (by first | decide | omega)) ?_
  refine At.p (some 7) (P_assign rfl rfl) ?_
  refine At.nil ?_
  refine At.next ?_
  refine At.seq ?_
  refine At.region ?_
  refine At.p (some 18) (P_move rfl rfl) ?_
  refine At.p (some 19) (P_and_w UK.u64 (b := 4294967295#64) rfl rfl rfl) ?_
  refine At.p (some 8) (P_assign rfl rfl) ?_
  refine At.nil ?_
  refine At.next ?_
  refine At.seq ?_
  refine At.region ?_
  refine At.p (some 20) (P_move rfl rfl) ?_
  refine At.p (some 21) (P_shr_w UK.u64 (n := 64) rfl rfl rfl (by first | decide | omega)) ?_
  refine At.p (some 9) (P_assign rfl rfl) ?_
  refine At.nil ?_
  refine At.next ?_
  refine At.seq ?_
  refine At.region ?_
  refine At.p (some 22) (P_move rfl rfl) ?_
  refine At.p (some 23) (P_move rfl rfl) ?_
  refine At.p (some 24) (P_mul_w UK.u64 rfl rfl rfl) ?_
  refine At.p (some 10) (P_assign rfl rfl) ?_
  refine At.nil ?_
  refine At.next ?_
  refine At.seq ?_
  refine At.region ?_
  refine At.p (some 25) (P_move rfl rfl) ?_
  refine At.p (some 26) (P_move rfl rfl) ?_
  refine At.p (some 27) (P_mul_w UK.u64 rfl rfl rfl) ?_
  refine At.p (some 28) (P_move rfl rfl) ?_
  refine At.p (some 29) (P_shr_w UK.u64 (n := 64) rfl rfl rfl (by first | decide | omega)) ?_
  refine At.p (some 30) (P_add_w UK.u64 rfl rfl rfl) ?_
  refine At.p (some 11) (P_assign rfl rfl) ?_
  refine At.nil ?_
  refine At.next ?_
  refine At.seq ?_
  refine At.region ?_
  refine At.p (some 31) (P_move rfl rfl) ?_
  refine At.p (some 32) (P_and_w UK.u64 (b := 4294967295#64) rfl rfl rfl) ?_
  refine At.p (some 12) (P_assign rfl rfl) ?_
  refine At.nil ?_
  refine At.next ?_
  refine At.seq ?_
  refine At.region ?_
  refine At.p (some 33) (P_move rfl rfl) ?_
  refine At.p (some 34) (P_shr_w UK.u64 (n := 64) rfl rfl rfl (by first | decide | omega)) ?_
  refine At.p (some 13) (P_assign rfl rfl) ?_
  refine At.nil ?_
  refine At.next ?_
  refine At.seq ?_
  refine At.region ?_
  refine At.p (some 35) (P_move rfl rfl) ?_
  refine At.p (some 36) (P_move rfl rfl) ?_
  refine At.p (some 37) (P_move rfl rfl) ?_
  refine At.p (some 38) (P_mul_w UK.u64 rfl rfl rfl) ?_
  refine At.p (some 39) (P_add_w UK.u64 rfl rfl rfl) ?_
  refine At.p (some 12) (P_assign rfl rfl) ?_
  refine At.nil ?_
  refine At.next ?_
  refine At.seq ?_
  refine At.region ?_
  refine At.p (some 40) (P_move rfl rfl) ?_
  refine At.p (some 41) (P_move rfl rfl) ?_
  refine At.p (some 42) (P_mul_w UK.u64 rfl rfl rfl) ?_
  refine At.p (some 43) (P_move rfl rfl) ?_
  refine At.p (some 44) (P_add_w UK.u64 rfl rfl rfl) ?_
  refine At.p (some 45) (P_move rfl rfl) ?_
  refine At.p (some 46) (P_shr_w UK.u64 (n := 64) rfl rfl rfl (by first | decide | omega)) ?_
  refine At.p (some 47) (P_add_w UK.u64 rfl rfl rfl) ?_
  refine At.p (some 4) (P_assign rfl rfl) ?_
  refine At.nil ?_
  refine At.next ?_
  refine At.seq ?_
  refine At.region ?_
  refine At.p (some 48) (P_move rfl rfl) ?_
  refine At.p (some 49) (P_move rfl rfl) ?_
  refine At.p (some 50) (P_mul_w UK.u64 rfl rfl rfl) ?_
  refine At.p (some 5) (P_assign rfl rfl) ?_
  refine At.nil ?_
  refine At.next ?_
  refine At.ret ?_
  refine At.give (.inl rfl) [] (rows' := []) (vs := [_, _]) rfl ⟨rfl, rfl, trivial⟩ rfl (by simp) (by simp) ⟨congrArg (fun z => Value.tuple #[u64V z, u64V (x * y)]) (mul_words x y), rfl⟩


def rotR (x : BitVec 32) (n : Nat) : BitVec 32 := x <<< (32 - n) ||| x >>> n
def w64 (b s : Nat) (l : List (BitVec 64)) : Row := ⟨false, b, s, 0, l.map u64V, 0⟩
def w32 (b s : Nat) (l : List (BitVec 32)) : Row := ⟨false, b, s, 0, l.map u32V, 0⟩
def pRow (b s : Nat) (l : List (BitVec 8)) : Row := ⟨false, b, s, 0, l.map u8V, 0⟩
def agg32 (l : List (BitVec 32)) : Value := .agg (l.map u32V).toArray
def aggK (l : List (BitVec 8)) : Value := .agg (l.map u8V).toArray
def divs (p : BitVec 64) (l : List (BitVec 64)) : Bool := l.any fun q => p % q == 0#64
theorem divs_at {p : BitVec 64} {l : List (BitVec 64)} {i : Nat} (h : i < l.length) (hd : (p % l.getD i 0#64 == 0#64) = true) : divs p l = true := by
  rw [divs, List.any_eq_true]
  refine ⟨l.getD i 0#64, ?_, hd⟩
  rw [List.getD_eq_getElem?_getD, List.getElem?_eq_getElem h]
  exact List.getElem_mem h
theorem divs_none {p : BitVec 64} {l : List (BitVec 64)} (h : ∀ j, j < l.length → (p % l.getD j 0#64 == 0#64) = false) : divs p l = false := by
  rw [divs, List.any_eq_false]
  intro q hq
  obtain ⟨j, hj, rfl⟩ := List.mem_iff_getElem.1 hq
  have := h j hj
  rw [List.getD_eq_getElem?_getD, List.getElem?_eq_getElem hj] at this
  simpa using this
/-- The primes below 2 + k. -/
def prTo : Nat → List (BitVec 64)
  | 0 => []
  | k + 1 => if divs (BitVec.ofNat 64 (2 + k)) (prTo k) then prTo k else prTo k ++ [BitVec.ofNat 64 (2 + k)]
theorem prTo_nz (k : Nat) (hk : k ≤ 310) : ∀ q ∈ prTo k, q ≠ 0#64 := by
  induction k with
  | zero => intro q hq; cases hq
  | succ k ih =>
    intro q hq
    unfold prTo at hq
    split at hq
    · exact ih (by omega) q hq
    · rcases List.mem_append.1 hq with h | h
      · exact ih (by omega) q h
      · have hq2 : q = BitVec.ofNat 64 (2 + k) := by simpa using h
        intro h0
        have := congrArg BitVec.toNat (hq2.symm.trans h0)
        rw [BitVec.toNat_ofNat, BitVec.toNat_ofNat] at this
        omega
theorem prTo_len (k : Nat) : (prTo (k + 1)).length ≤ (prTo k).length + 1 := by
  rw [prTo]
  split
  · omega
  · simp
theorem prTo_pre {j k : Nat} (h : j ≤ k) : ∃ m, prTo k = prTo j ++ m := by
  induction k with
  | zero => exact ⟨[], by rw [show j = 0 by omega]; rfl⟩
  | succ k ih =>
    by_cases e : j = k + 1
    · subst e; exact ⟨[], by simp⟩
    · obtain ⟨m, hm⟩ := ih (by omega)
      have hs : prTo (k + 1) = if divs (BitVec.ofNat 64 (2 + k)) (prTo k) then prTo k else prTo k ++ [BitVec.ofNat 64 (2 + k)] := rfl
      rw [hs]
      split
      · exact ⟨m, hm⟩
      · exact ⟨m ++ [BitVec.ofNat 64 (2 + k)], by rw [hm, List.append_assoc]⟩
theorem pr_all : (prTo 310).length = 64 := by kernel_rfl
def primesN (n : Nat) : List (BitVec 64) := (prTo 310).take n
theorem primesN_len {n : Nat} (h : n ≤ 64) : (primesN n).length = n := by rw [primesN, List.length_take, pr_all]; omega
theorem prTo_fin {k n : Nat} (hk : k ≤ 310) (h : (prTo k).length = n) : prTo k = primesN n := by
  obtain ⟨m, hm⟩ := prTo_pre hk
  rw [primesN, hm, ← h, List.take_left]
def rHigh (p next : BitVec 64) (cube : Bool) : BitVec 64 := if cube then mulH next next * next + mulH (next * next) next else mulH next next
def rLow (next : BitVec 64) (cube : Bool) : BitVec 64 := if cube then next * next * next else next * next
def rMost (p : BitVec 64) (cube : Bool) : BitVec 64 := if cube then p <<< 32 else p
def rOk (p next : BitVec 64) (cube : Bool) : Bool := decide ((rHigh p next cube).toNat < (rMost p cube).toNat) || (rHigh p next cube == rMost p cube && rLow next cube == 0#64)
def rTo (p : BitVec 64) (cube : Bool) : Nat → BitVec 64
  | 0 => 0#64
  | k + 1 => if rOk p (rTo p cube k ||| 1#64 <<< (35 - k)) cube then rTo p cube k ||| 1#64 <<< (35 - k) else rTo p cube k
def rootS (cube : Bool) (p : BitVec 64) : BitVec 32 := (rTo p cube 36).setWidth 32
def rootsN (n : Nat) (cube : Bool) : List (BitVec 32) := (primesN n).map (rootS cube)
theorem rootsN_len {n : Nat} (h : n ≤ 64) (cube : Bool) : (rootsN n cube).length = n := by rw [rootsN, List.length_map, primesN_len h]
def H0 : List (BitVec 32) := [1779033703#32, 3144134277#32, 1013904242#32, 2773480762#32, 1359893119#32, 2600822924#32, 528734635#32, 1541459225#32]
def KK : List (BitVec 32) := [1116352408#32, 1899447441#32, 3049323471#32, 3921009573#32, 961987163#32, 1508970993#32, 2453635748#32, 2870763221#32, 3624381080#32, 310598401#32, 607225278#32, 1426881987#32, 1925078388#32, 2162078206#32, 2614888103#32, 3248222580#32, 3835390401#32, 4022224774#32, 264347078#32, 604807628#32, 770255983#32, 1249150122#32, 1555081692#32, 1996064986#32, 2554220882#32, 2821834349#32, 2952996808#32, 3210313671#32, 3336571891#32, 3584528711#32, 113926993#32, 338241895#32, 666307205#32, 773529912#32, 1294757372#32, 1396182291#32, 1695183700#32, 1986661051#32, 2177026350#32, 2456956037#32, 2730485921#32, 2820302411#32, 3259730800#32, 3345764771#32, 3516065817#32, 3600352804#32, 4094571909#32, 275423344#32, 430227734#32, 506948616#32, 659060556#32, 883997877#32, 958139571#32, 1322822218#32, 1537002063#32, 1747873779#32, 1955562222#32, 2024104815#32, 2227730452#32, 2361852424#32, 2428436474#32, 2756734187#32, 3204031479#32, 3329325298#32]
theorem roots8 : rootsN 8 false = H0 := by kernel_rfl
theorem roots64 : rootsN 64 true = KK := by kernel_rfl

theorem c_rot (x : BitVec 32) (k : Nat) (h0 : 0 < k) (hk : k < 32) :
    Con Try.prog 40 [u32V x, iV (-(k : Int))] [] (fun v rs => v = u32V (rotR x k) ∧ rs = []) := by
  refine Con.enter Try.func40 Try.ntmps40 (Nat.le_of_ble_eq_true rfl) rfl fun w => ?_
  refine At.seq ?_
  refine At.region ?_
  refine At.p (some 4) (P_assign rfl rfl) ?_
  refine At.nil ?_
  refine At.next ?_
  refine At.seq ?_
  refine At.region ?_
  refine At.p (some 6) (P_move rfl rfl) ?_
  refine At.p (some 7) (P_conv_iw UK.u64 rfl Try.underlying3 Try.underlying53 rfl) ?_
  refine At.p (some 8) (P_and_w UK.u64 (b := 31#64) rfl rfl rfl) ?_
  refine At.p (some 5) (P_assign rfl rfl) ?_
  refine At.nil ?_
  refine At.next ?_
  refine At.seq ?_
  refine At.region ?_
  refine At.p (some 9) (P_move rfl rfl) ?_
  refine At.p (some 10) (P_move rfl rfl) ?_
  refine At.p (some 11) (P_shl_w UK.u32 (n := 32) rfl rfl rfl (by first | decide | omega)) ?_
  refine At.p (some 12) (P_move rfl rfl) ?_
  refine At.p (some 13) (P_move rfl rfl) ?_
  refine At.p (some 14) (P_sub_w UK.u64 (a := 32#64) rfl rfl rfl) ?_
  refine At.p (some 15) (P_shr_w UK.u32 (n := 32) rfl rfl rfl (by first | decide | omega)) ?_
  refine At.p (some 16) (P_or_w UK.u32 rfl rfl rfl) ?_
  refine At.p (some 4) (P_assign rfl rfl) ?_
  refine At.nil ?_
  refine At.next ?_
  refine At.ret ?_
  refine At.give (.inl rfl) [] (rows' := []) (vs := [_]) rfl ⟨rfl, trivial⟩ rfl (by simp) (by simp) ⟨?_, rfl⟩
  have e : (BitVec.ofInt 64 (-(k : Int)) &&& 31#64) = BitVec.ofNat 64 (32 - k) := by
    apply BitVec.eq_of_toNat_eq
    rw [BitVec.toNat_and, BitVec.toNat_ofInt, BitVec.toNat_ofNat, BitVec.toNat_ofNat]
    rw [show (31 % 2 ^ 64 : Nat) = 2 ^ 5 - 1 from rfl, Nat.and_two_pow_sub_one_eq_mod]
    omega
  have e2 : (32#64 - BitVec.ofNat 64 (32 - k)).toNat = k := by
    rw [BitVec.toNat_sub, BitVec.toNat_ofNat, BitVec.toNat_ofNat]
    omega
  rw [e, retV]
  simp only [rotR, Int.toNat_natCast, e2]
  have e3 : (BitVec.ofNat 64 (32 - k)).toNat = 32 - k := by rw [BitVec.toNat_ofNat]; omega
  rw [e3]

theorem c_right (x : BitVec 32) (k : Nat) (h0 : 0 < k) (hk : k < 32) :
    Con Try.prog 36 [u32V x, iV (k : Int)] [] (fun v rs => v = u32V (rotR x k) ∧ rs = []) := by
  refine Con.enter Try.func36 Try.ntmps36 (Nat.le_of_ble_eq_true rfl) rfl fun w => ?_
  refine At.seq ?_
  refine At.region ?_
  refine At.p (some 4) (P_assign rfl rfl) ?_
  refine At.nil ?_
  refine At.next ?_
  refine At.seq ?_
  refine At.region ?_
  refine At.p (some 5) (P_move rfl rfl) ?_
  refine At.p (some 6) (P_move rfl rfl) ?_
  refine At.p (some 7) (P_neg_i rfl rfl (by omega)) ?_
  refine At.s (S_callV (some 8) [] [] (vs := [_, _]) rfl en40 rfl V0 (by simp) (c_rot x k h0 hk) (by rintro _ _ ⟨rfl, rfl⟩; rfl) ?_)
  rintro _ _ ⟨rfl, rfl⟩
  refine At.p (some 4) (P_assign rfl rfl) ?_
  refine At.nil ?_
  refine At.next ?_
  refine At.ret ?_
  refine At.give (.inl rfl) [] (rows' := []) (vs := [_]) rfl ⟨rfl, trivial⟩ rfl (by simp) (by simp) ⟨rfl, rfl⟩

theorem c_pred (p q : BitVec 64) (bp : Nat) (hq : q ≠ 0#64) :
    Con Try.prog 38 [u64V q, ptr bp 0] [⟨false, bp, 0, 23, [u64V p], 0⟩] (fun v rs => v = .bool (p % q == 0#64) ∧ rs = []) := by
  refine Con.enter Try.func38 Try.ntmps38 (Nat.le_of_ble_eq_true rfl) rfl fun w => ?_
  refine At.seq ?_
  refine At.region ?_
  refine At.p (some 3) (P_assign rfl rfl) ?_
  refine At.nil ?_
  refine At.next ?_
  refine At.seq ?_
  refine At.region ?_
  refine At.q (some 4) (Q_loadO (k := 0) rfl rfl Try.underlying23 rfl rfl rfl) ?_
  refine At.p (some 5) (P_move rfl rfl) ?_
  refine At.p (some 6) (P_rem_w UK.u64 rfl rfl rfl hq) ?_
  refine At.p (some 7) (P_eql_w (n := 64) (b := 0#64) rfl rfl rfl) ?_
  refine At.p (some 3) (P_assign rfl rfl) ?_
  refine At.nil ?_
  refine At.next ?_
  refine At.ret ?_
  refine At.give (.inl rfl) [] (rows' := []) (vs := [_]) rfl ⟨rfl, trivial⟩ rfl (by simp) (by simp) ⟨rfl, rfl⟩

theorem c_IndexFunc (A : Option Addr) (l : List (BitVec 64)) (ca bq q bp : Nat) (p : BitVec 64) (hA : 0 < l.length → A = some ⟨bq, q, none⟩) (hz : ∀ q ∈ l, q ≠ 0#64) (hl : l.length ≤ 1000000) :
    Con Try.prog 41 [.slice A l.length ca, .func (.func 38) #[] #[ptr bp 0]] [w64 bq q l, ⟨false, bp, 0, 23, [u64V p], 0⟩] (fun v rs => ∃ z : Int, v = iV z ∧ (0 ≤ z ↔ divs p l = true) ∧ -1 ≤ z ∧ z ≤ 1000000 ∧ rs = []) := by
  refine Con.enter Try.func41 Try.ntmps41 (Nat.le_of_ble_eq_true rfl) rfl fun w => ?_
  refine At.seq ?_
  refine At.region ?_
  refine At.p (some 4) (P_assign rfl rfl) ?_
  refine At.nil ?_
  refine At.next ?_
  refine At.seq ?_
  refine At.seq ?_
  refine At.region ?_
  refine At.p (some 6) (P_move rfl rfl) ?_
  refine At.p (some 7) (P_len_sl rfl rfl ⟨_, Try.underlying56⟩ rfl) ?_
  refine At.p (some 8) (P_move rfl rfl) ?_
  refine At.nil ?_
  refine At.next ?_
  refine At.block ?_
  refine At.loopx (I := fun m fr H => ∃ i, m = l.length - i ∧ fr = frOf [(0, .slice A l.length ca), (1, .func (.func 38) #[] #[ptr bp 0]), (7, iV (l.length : Int)), (8, iV (i : Int))] ∧ H = hOf [(0, w64 bq q l), (1, ⟨false, bp, 0, 23, [u64V p], 0⟩)] ∧ i ≤ l.length ∧ ∀ j, j < i → (p % l.getD j 0#64 == 0#64) = false) ?_ ?_
  · intro Kc0 hKc0
    refine At.to [(0, _), (1, _), (7, _), (8, _)] [(0, _), (1, _)] (AllL.cons_ (rfl) (AllL.cons_ (rfl) (AllL.cons_ (rfl) (AllL.cons_ (rfl) trivial)))) (AllL.cons_ (rfl) (AllL.cons_ (rfl) trivial)) ?_
    exact hKc0 _ _ _ ⟨0, rfl, rfl, rfl, by omega, fun j hj => absurd hj (by omega)⟩
  · rintro m fr H ⟨i, rfl, rfl, rfl, hi, hno⟩ Kc0 hKc0
    refine At.seq ?_
    refine At.region ?_
    refine At.p (some 9) (P_cmp rfl rfl rfl rfl rfl rfl) ?_
    refine At.nil ?_
    refine At.next ?_
    refine At.seq ?_
    refine At.cond rfl (fun h9 => ?_) (fun h9 => ?_)
    · -- cond 9 t
      have hlt : i < l.length := by simp at h9; omega
      have hq : l.getD i 0#64 ≠ 0#64 := by rw [List.getD_eq_getElem?_getD, List.getElem?_eq_getElem hlt]; exact hz _ (List.getElem_mem hlt)
      refine At.skip ?_
      refine At.next ?_
      refine At.seq ?_
      refine At.block ?_
      refine At.seq ?_
      refine At.region ?_
      refine At.p (some 10) (P_move rfl rfl) ?_
      refine At.p (some 5) (P_assign rfl rfl) ?_
      refine At.nil ?_
      refine At.next ?_
      refine At.seq ?_
      refine At.region ?_
      refine At.p (some 11) (P_move rfl rfl) ?_
      refine At.p (some 12) (P_move rfl rfl) ?_
      refine At.p (some 13) (P_move rfl rfl) ?_
      refine At.p (some 14) (P_indexAddr_sl1 rfl Try.underlying56 sz23 rfl (hA (by omega)) rfl rfl (by omega)) ?_
      refine At.q (some 15) (Q_loadR (l := l) (k := 0) (j := i) (0#64) rfl rfl Try.underlying23 rfl rfl rfl (by omega)) ?_
      refine At.s (S_callC (some 16) [(1, ⟨false, bp, 0, 23, [u64V p], 0⟩)] [] (f := 38) (vs := [_]) (lb := [ptr bp 0]) rfl rfl en38 rfl (VN (by simp) rfl View.all V0) (by simp) (c_pred p (l.getD i 0#64) bp hq) (by rintro _ _ ⟨rfl, rfl⟩; rfl) ?_)
      rintro _ _ ⟨rfl, rfl⟩
      refine At.nil ?_
      refine At.next ?_
      refine At.cond rfl (fun h16 => ?_) (fun h16 => ?_)
      · -- cond 16 t
        refine At.seq ?_
        refine At.region ?_
        refine At.p (some 17) (P_move rfl rfl) ?_
        refine At.p (some 4) (P_assign rfl rfl) ?_
        refine At.nil ?_
        refine At.next ?_
        refine At.ret ?_
        refine At.inb_r ?_
        refine At.thn_r ?_
        refine At.thn_r ?_
        refine At.inb_r ?_
        refine At.thn_r ?_
        refine At.give (.inl rfl) [] (rows' := []) (vs := [_]) rfl ⟨rfl, trivial⟩ rfl (by simp) (by simp) ⟨_, rfl, by rw [divs_at hlt (by simpa using h16)]; simp, by omega, by omega, rfl⟩
      · -- cond 16 f
        have hdv : (p % l.getD i 0#64 == 0#64) = false := by simpa using h16
        refine At.skip ?_
        refine At.inb_n ?_
        refine At.next ?_
        refine At.region ?_
        refine At.p (some 18) (P_add_i rfl rfl rfl (by omega)) ?_
        refine At.p (some 8) (P_move rfl rfl) ?_
        refine At.nil ?_
        refine At.next ?_
        refine At.to [(0, _), (1, _), (7, _), (8, _)] [(0, _), (1, _)] (AllL.cons_ (rfl) (AllL.cons_ (rfl) (AllL.cons_ (rfl) (AllL.cons_ (rfl) trivial)))) (AllL.cons_ (rfl) (AllL.cons_ (rfl) trivial)) ?_
        exact hKc0 _ _ _ (by omega) ⟨i + 1, rfl, rfl, rfl, by omega, fun j hj => by by_cases e : j = i; subst e; exact hdv; exact hno j (by omega)⟩
    · -- cond 9 f
      obtain rfl : i = l.length := by simp at h9; omega
      refine At.exit ?_
      refine At.thn_e ?_
      refine At.thn_e ?_
      refine At.inb_hit ?_
      refine At.next ?_
      refine At.seq ?_
      refine At.region ?_
      refine At.p (some 4) (P_assign rfl rfl) ?_
      refine At.nil ?_
      refine At.next ?_
      refine At.ret ?_
      refine At.give (.inl rfl) [] (rows' := []) (vs := [_]) rfl ⟨rfl, trivial⟩ rfl (by simp) (by simp) ⟨_, rfl, by rw [divs_none hno]; decide, by omega, by omega, rfl⟩

theorem c_ContainsFunc (A : Option Addr) (l : List (BitVec 64)) (ca bq q bp : Nat) (p : BitVec 64) (hA : 0 < l.length → A = some ⟨bq, q, none⟩) (hz : ∀ q ∈ l, q ≠ 0#64) (hl : l.length ≤ 1000000) :
    Con Try.prog 37 [.slice A l.length ca, .func (.func 38) #[] #[ptr bp 0]] [w64 bq q l, ⟨false, bp, 0, 23, [u64V p], 0⟩] (fun v rs => v = .bool (divs p l) ∧ rs = []) := by
  refine Con.enter Try.func37 Try.ntmps37 (Nat.le_of_ble_eq_true rfl) rfl fun w => ?_
  refine At.seq ?_
  refine At.region ?_
  refine At.p (some 4) (P_assign rfl rfl) ?_
  refine At.nil ?_
  refine At.next ?_
  refine At.seq ?_
  refine At.region ?_
  refine At.p (some 5) (P_move rfl rfl) ?_
  refine At.p (some 6) (P_move rfl rfl) ?_
  refine At.s (S_callV (some 7) [(0, _), (1, _)] [] (vs := [_, _]) rfl en41 rfl (VN (by simp) rfl View.all (VN (by simp) rfl View.all V0)) (by simp) (c_IndexFunc A l ca bq q bp p hA hz hl) (by rintro _ _ ⟨z, rfl, hz1, hz2, hz3, rfl⟩; rfl) ?_)
  rintro _ _ ⟨z, rfl, hz1, hz2, hz3, rfl⟩
  refine At.p (some 8) (P_cmp rfl rfl rfl rfl rfl rfl) ?_
  refine At.p (some 4) (P_assign rfl rfl) ?_
  refine At.nil ?_
  refine At.next ?_
  refine At.ret ?_
  refine At.give (.inl rfl) [] (rows' := []) (vs := [_]) rfl ⟨rfl, trivial⟩ rfl (by simp) (by simp) ⟨congrArg Value.bool (by rw [Bool.eq_iff_iff]; simpa using hz1), rfl⟩

theorem c_primes (n : Nat) (hn : n ≤ 64) :
    Con Try.prog 33 [iV (n : Int)] [] (fun v rs => ∃ A b c, (0 < c → A = some ⟨b, 0, none⟩) ∧ n ≤ c ∧ v = .slice A n c ∧ rs = [⟨true, b, 0, 23, (primesN n).map u64V, c - n⟩]) := by
  refine Con.enter Try.func33 Try.ntmps33 (Nat.le_of_ble_eq_true rfl) rfl fun w => ?_
  refine At.seq ?_
  refine At.region ?_
  refine At.p (some 2) (P_assign rfl rfl) ?_
  refine At.nil ?_
  refine At.next ?_
  refine At.seq ?_
  refine At.region ?_
  refine At.p (some 3) (P_assign rfl rfl) ?_
  refine At.nil ?_
  refine At.next ?_
  refine At.seq ?_
  refine At.seq ?_
  refine At.empty 3 0 23 ?_
  refine At.region ?_
  refine At.s (S_alloc (some 4) 4 (zs := [u64V 0#64]) rfl ze23 rfl (fun b4 => ?_))
  refine At.s (S_store none (k := 4) rfl rfl rfl sz23 rfl rfl rfl (by first | omega | (simp <;> omega)) ?_)
  refine At.nil ?_
  refine At.next ?_
  refine At.block ?_
  refine At.loopx (I := fun m fr H => ∃ (k : Nat) (b3 c3 b4 : Nat) (A3 : Option Addr), m = 310 - k ∧ fr = frOf [(0, iV (n : Int)), (3, .slice A3 (prTo k).length c3), (4, ptr b4 0)] ∧ H = hOf [(3, ⟨true, b3, 0, 23, (prTo k).map u64V, c3 - (prTo k).length⟩), (4, ⟨true, b4, 0, 23, [u64V (BitVec.ofNat 64 (2 + k))], 0⟩)] ∧ k ≤ 310 ∧ (prTo k).length ≤ n ∧ (0 < c3 → A3 = some ⟨b3, 0, none⟩) ∧ (prTo k).length ≤ c3) ?_ ?_
  · intro Kc0 hKc0
    refine At.to [(0, _), (3, _), (4, _)] [(3, ⟨true, 0, 0, 23, (prTo 0).map u64V, 0 - (prTo 0).length⟩), (4, ⟨true, b4, 0, 23, [u64V (BitVec.ofNat 64 (2 + 0))], 0⟩)] (AllL.cons_ (rfl) (AllL.cons_ (rfl) (AllL.cons_ (rfl) trivial))) (AllL.cons_ (rfl) (AllL.cons_ (rfl) trivial)) ?_
    exact hKc0 _ _ _ ⟨0, 0, 0, b4, none, rfl, rfl, rfl, by omega, by simp [prTo], fun h => absurd h (by decide), by simp [prTo]⟩
  · rintro m fr H ⟨k, b3, c3, b4, A3, rfl, rfl, rfl, hk, hkn, hA3, hc3⟩ Kc0 hKc0
    refine At.seq ?_
    refine At.seq ?_
    refine At.region ?_
    refine At.p (some 5) (P_move rfl rfl) ?_
    refine At.p (some 6) (P_len_sl rfl rfl ⟨_, Try.underlying56⟩ rfl) ?_
    refine At.p (some 7) (P_move rfl rfl) ?_
    refine At.p (some 8) (P_cmp rfl rfl rfl rfl rfl rfl) ?_
    refine At.nil ?_
    refine At.next ?_
    refine At.cond rfl (fun h8 => ?_) (fun h8 => ?_)
    · -- cond 8 t
      have hlt : (prTo k).length < n := by simp at h8; omega
      have hk1 : k < 310 := by
        apply Decidable.byContradiction
        intro hh
        obtain rfl : k = 310 := by omega
        rw [pr_all] at hlt
        omega
      have hl1 := prTo_len k
      refine At.skip ?_
      refine At.next ?_
      refine At.seq ?_
      refine At.block ?_
      refine At.seq ?_
      refine At.region ?_
      refine At.p (some 11) (P_move rfl rfl) ?_
      refine At.p (some 12) (P_makeFunc (vs := [_]) rfl rfl) ?_
      refine At.s (S_callV (some 13) [(3, _), (4, _)] [] (vs := [_, _]) rfl en37 rfl (VN (by simp) rfl View.all (VN (by simp) rfl View.all V0)) (by simp) (c_ContainsFunc A3 (prTo k) c3 b3 0 b4 (BitVec.ofNat 64 (2 + k)) (fun h => hA3 (by omega)) (prTo_nz k hk) (by omega)) (by rintro _ _ ⟨rfl, rfl⟩; rfl) ?_)
      rintro _ _ ⟨rfl, rfl⟩
      refine At.p (some 14) (P_not rfl rfl) ?_
      refine At.nil ?_
      refine At.next ?_
      refine At.cond rfl (fun h14 => ?_) (fun h14 => ?_)
      · -- cond 14 t
        have hpr : prTo (k + 1) = prTo k ++ [BitVec.ofNat 64 (2 + k)] := by rw [prTo, if_neg (by simpa using h14)]
        have hlen1 : (prTo (k + 1)).length ≤ n := by omega
        refine At.region ?_
        refine At.p (some 15) (P_move rfl rfl) ?_
        refine At.q (some 16) (Q_loadO (k := 4) rfl rfl Try.underlying23 rfl rfl rfl) ?_
        refine At.s (S_buildSliceV (some 17) 17 ([BitVec.ofNat 64 (2 + k)].map u64V) rfl Try.underlying56 sz23 ze23 rfl rfl (by decide) (by decide) rfl rfl (fun b17 => ?_))
        refine At.s (S_appendM (some 18) 3 (prTo (k + 1)) (f := u64V) (l := prTo k) (L := [BitVec.ofNat 64 (2 + k)]) rfl Try.underlying56 Try.underlying56 (.inr ⟨_, rfl⟩) sz23 by23 ze23 rfl rfl (fun h => ⟨hA3 h, rfl⟩) rfl (by omega) (Src.row (k := 17) (j := 0) rfl (fun _ => rfl) (fun _ => ⟨rfl, rfl, rfl⟩) rfl rfl) (fun _ => rfl) (by omega) (by omega) hpr.symm rfl ?_)
        intro A3 b3 c3 g1 g2
        refine At.p (some 3) (P_assign rfl rfl) ?_
        refine At.nil ?_
        refine At.inb_n ?_
        refine At.next ?_
        refine At.seq ?_
        refine At.seq ?_
        refine At.region ?_
        refine At.q (some 19) (Q_loadO (k := 4) rfl rfl Try.underlying23 rfl rfl rfl) ?_
        refine At.nil ?_
        refine At.next ?_
        refine At.region ?_
        refine At.s (S_alloc (some 4) 4 (zs := [u64V 0#64]) rfl ze23 rfl (fun b4 => ?_))
        refine At.s (S_store none (k := 4) rfl rfl rfl sz23 rfl rfl rfl (by first | omega | (simp <;> omega)) ?_)
        refine At.nil ?_
        refine At.next ?_
        refine At.region ?_
        refine At.q (some 9) (Q_loadO (k := 4) rfl rfl Try.underlying23 rfl rfl rfl) ?_
        refine At.p (some 10) (P_add_w UK.u64 (b := 1#64) rfl rfl rfl) ?_
        refine At.s (S_store none (k := 4) rfl rfl rfl sz23 rfl rfl rfl (by first | omega | (simp <;> omega)) ?_)
        refine At.nil ?_
        refine At.next ?_
        refine At.to [(0, _), (3, _), (4, _)] [(3, _), (4, ⟨true, b4, 0, 23, [u64V (BitVec.ofNat 64 (2 + (k + 1)))], 0⟩)] (AllL.cons_ (rfl) (AllL.cons_ (rfl) (AllL.cons_ (rfl) trivial))) (AllL.cons_ (rfl) (AllL.cons_ (congrArg (fun z => some (⟨true, b4, 0, 23, [u64V z], 0⟩ : Row)) (BitVec.ofNat_add (2 + k) 1).symm) trivial)) ?_
        exact hKc0 _ _ _ (by omega) ⟨k + 1, _, _, b4, _, rfl, rfl, rfl, by omega, hlen1, by first | exact g1 | exact hA3, by first | exact g2 | (rw [hpr]; exact hc3)⟩
      · -- cond 14 f
        have hpr : prTo (k + 1) = prTo k := by rw [prTo, if_pos (by simpa using h14)]
        have hlen1 : (prTo (k + 1)).length ≤ n := by rw [hpr]; omega
        rw [← hpr]
        refine At.skip ?_
        refine At.inb_n ?_
        refine At.next ?_
        refine At.seq ?_
        refine At.seq ?_
        refine At.region ?_
        refine At.q (some 19) (Q_loadO (k := 4) rfl rfl Try.underlying23 rfl rfl rfl) ?_
        refine At.nil ?_
        refine At.next ?_
        refine At.region ?_
        refine At.s (S_alloc (some 4) 4 (zs := [u64V 0#64]) rfl ze23 rfl (fun b4 => ?_))
        refine At.s (S_store none (k := 4) rfl rfl rfl sz23 rfl rfl rfl (by first | omega | (simp <;> omega)) ?_)
        refine At.nil ?_
        refine At.next ?_
        refine At.region ?_
        refine At.q (some 9) (Q_loadO (k := 4) rfl rfl Try.underlying23 rfl rfl rfl) ?_
        refine At.p (some 10) (P_add_w UK.u64 (b := 1#64) rfl rfl rfl) ?_
        refine At.s (S_store none (k := 4) rfl rfl rfl sz23 rfl rfl rfl (by first | omega | (simp <;> omega)) ?_)
        refine At.nil ?_
        refine At.next ?_
        refine At.to [(0, _), (3, _), (4, _)] [(3, _), (4, ⟨true, b4, 0, 23, [u64V (BitVec.ofNat 64 (2 + (k + 1)))], 0⟩)] (AllL.cons_ (rfl) (AllL.cons_ (rfl) (AllL.cons_ (rfl) trivial))) (AllL.cons_ (rfl) (AllL.cons_ (congrArg (fun z => some (⟨true, b4, 0, 23, [u64V z], 0⟩ : Row)) (BitVec.ofNat_add (2 + k) 1).symm) trivial)) ?_
        exact hKc0 _ _ _ (by omega) ⟨k + 1, _, _, b4, _, rfl, rfl, rfl, by omega, hlen1, by first | exact g1 | exact hA3, by first | exact g2 | (rw [hpr]; exact hc3)⟩
    · -- cond 8 f
      have hkl : (prTo k).length = n := by simp at h8; omega
      refine At.exit ?_
      refine At.thn_e ?_
      refine At.thn_e ?_
      refine At.inb_hit ?_
      refine At.next ?_
      refine At.seq ?_
      refine At.region ?_
      refine At.p (some 20) (P_move rfl rfl) ?_
      refine At.p (some 2) (P_assign rfl rfl) ?_
      refine At.nil ?_
      refine At.next ?_
      refine At.ret ?_
      refine At.give (.inl rfl) [3] (rows' := [_]) (vs := [_]) rfl ⟨rfl, trivial⟩ rfl (by simp) (by simp) ⟨A3, b3, c3, hA3, hkl ▸ hc3, by rw [← hkl]; rfl, by rw [← prTo_fin hk hkl, hkl]⟩
end Go.Proofs.Ytdkeadfhejkidaa
