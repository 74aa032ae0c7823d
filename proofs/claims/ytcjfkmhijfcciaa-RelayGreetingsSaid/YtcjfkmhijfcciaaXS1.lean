import Derived.Test.YtcjfkmhijfcciaaXT
import Derived.Test.YtcjfkmhijfcciaaG1
import Derived.Lib.Mul64
namespace Go.Proofs.Ytcjfkmhijfcciaa
set_option maxRecDepth 20000
set_option linter.unusedVariables false
set_option linter.unusedSimpArgs false
open Go.SE Go.RowKit
def mulH (x y : BitVec 64) : BitVec 64 := BitVec.ofNat 64 (x.toNat * y.toNat / 18446744073709551616)

theorem mul_words (x y : BitVec 64) : (x >>> 32) * (y >>> 32) + ((x >>> 32) * (y &&& 4294967295#64) + ((x &&& 4294967295#64) * (y &&& 4294967295#64)) >>> 32) >>> 32 + ((((x >>> 32) * (y &&& 4294967295#64) + ((x &&& 4294967295#64) * (y &&& 4294967295#64)) >>> 32) &&& 4294967295#64) + (x &&& 4294967295#64) * (y >>> 32)) >>> 32 = mulH x y := by
 apply BitVec.eq_of_toNat_eq
 have hx := x.isLt
 have hy := y.isLt
 have e : ∀ z : BitVec 64, (z &&& 4294967295#64).toNat = z.toNat % 4294967296 := fun z => by
  rw [BitVec.toNat_and]
  exact Nat.and_two_pow_sub_one_eq_mod z.toNat 32
 have d : ∀ z : BitVec 64, (z >>> 32).toNat = z.toNat / 4294967296 := fun z => by
  rw [BitVec.toNat_ushiftRight, Nat.shiftRight_eq_div_pow]
 obtain ⟨h1, h2, h3, h4⟩ := Lib.mul64_hi x.toNat y.toNat hx hy
 have ha : x.toNat / 4294967296 * (y.toNat % 4294967296) < 18446744073709551616 := by omega
 have hb : x.toNat % 4294967296 * (y.toNat / 4294967296) < 18446744073709551616 := by omega
 have hp : x.toNat * y.toNat / 18446744073709551616 < 18446744073709551616 := by
  rw [Nat.div_lt_iff_lt_mul (by decide)]
  exact Nat.mul_lt_mul'' hx hy
 have hc : x.toNat / 4294967296 * (y.toNat / 4294967296) < 18446744073709551616 := by omega
 unfold mulH
 simp only [BitVec.toNat_add, BitVec.toNat_mul, e, d, BitVec.toNat_ofNat]
 rw [Nat.mod_eq_of_lt (show x.toNat % 4294967296 * (y.toNat % 4294967296) < 2 ^ 64 from h1), Nat.mod_eq_of_lt (show x.toNat / 4294967296 * (y.toNat % 4294967296) < 2 ^ 64 from ha), Nat.mod_eq_of_lt (show x.toNat % 4294967296 * (y.toNat / 4294967296) < 2 ^ 64 from hb), Nat.mod_eq_of_lt (show x.toNat / 4294967296 * (y.toNat / 4294967296) < 2 ^ 64 from hc), Nat.mod_eq_of_lt (show _ < 2 ^ 64 from h2), Nat.mod_eq_of_lt (show _ < 2 ^ 64 from h3)]
 omega

theorem c_mul (x y : BitVec 64) :
  Con Try.prog 129 [u64V x, u64V y] [] (fun v rs => v = .tuple #[u64V (mulH x y), u64V (x * y)] ∧ rs = []) := by
 refine Con.enter Try.func129 Try.ntmps129 (Nat.le_of_ble_eq_true rfl) rfl fun w => ?_
 refine At.seq ?_
 refine At.region ?_
 refine At.p (some 4) (P_assign rfl rfl) ?_
 refine At.p (some 5) (P_assign rfl rfl) ?_
 refine At.nil ?_
 refine At.next ?_
 refine At.seq ?_
 refine At.region ?_
 refine At.p (some 14) (P_move rfl rfl) ?_
 refine At.p (some 15) (P_and_w UK.u64 (b := 4294967295#64) rfl rfl rfl) ?_
 refine At.p (some 6) (P_assign rfl rfl) ?_
 refine At.nil ?_
 refine At.next ?_
 refine At.seq ?_
 refine At.region ?_
 refine At.p (some 16) (P_move rfl rfl) ?_
 refine At.p (some 17) (P_shr_w UK.u64 (n := 64) rfl rfl rfl (by first | decide | omega)) ?_
 refine At.p (some 7) (P_assign rfl rfl) ?_
 refine At.nil ?_
 refine At.next ?_
 refine At.seq ?_
 refine At.region ?_
 refine At.p (some 18) (P_move rfl rfl) ?_
 refine At.p (some 19) (P_and_w UK.u64 (b := 4294967295#64) rfl rfl rfl) ?_
 refine At.p (some 8) (P_assign rfl rfl) ?_
 refine At.nil ?_
 refine At.next ?_
 refine At.seq ?_
 refine At.region ?_
 refine At.p (some 20) (P_move rfl rfl) ?_
 refine At.p (some 21) (P_shr_w UK.u64 (n := 64) rfl rfl rfl (by first | decide | omega)) ?_
 refine At.p (some 9) (P_assign rfl rfl) ?_
 refine At.nil ?_
 refine At.next ?_
 refine At.seq ?_
 refine At.region ?_
 refine At.p (some 22) (P_move rfl rfl) ?_
 refine At.p (some 23) (P_move rfl rfl) ?_
 refine At.p (some 24) (P_mul_w UK.u64 rfl rfl rfl) ?_
 refine At.p (some 10) (P_assign rfl rfl) ?_
 refine At.nil ?_
 refine At.next ?_
 refine At.seq ?_
 refine At.region ?_
 refine At.p (some 25) (P_move rfl rfl) ?_
 refine At.p (some 26) (P_move rfl rfl) ?_
 refine At.p (some 27) (P_mul_w UK.u64 rfl rfl rfl) ?_
 refine At.p (some 28) (P_move rfl rfl) ?_
 refine At.p (some 29) (P_shr_w UK.u64 (n := 64) rfl rfl rfl (by first | decide | omega)) ?_
 refine At.p (some 30) (P_add_w UK.u64 rfl rfl rfl) ?_
 refine At.p (some 11) (P_assign rfl rfl) ?_
 refine At.nil ?_
 refine At.next ?_
 refine At.seq ?_
 refine At.region ?_
 refine At.p (some 31) (P_move rfl rfl) ?_
 refine At.p (some 32) (P_and_w UK.u64 (b := 4294967295#64) rfl rfl rfl) ?_
 refine At.p (some 12) (P_assign rfl rfl) ?_
 refine At.nil ?_
 refine At.next ?_
 refine At.seq ?_
 refine At.region ?_
 refine At.p (some 33) (P_move rfl rfl) ?_
 refine At.p (some 34) (P_shr_w UK.u64 (n := 64) rfl rfl rfl (by first | decide | omega)) ?_
 refine At.p (some 13) (P_assign rfl rfl) ?_
 refine At.nil ?_
 refine At.next ?_
 refine At.seq ?_
 refine At.region ?_
 refine At.p (some 35) (P_move rfl rfl) ?_
 refine At.p (some 36) (P_move rfl rfl) ?_
 refine At.p (some 37) (P_move rfl rfl) ?_
 refine At.p (some 38) (P_mul_w UK.u64 rfl rfl rfl) ?_
 refine At.p (some 39) (P_add_w UK.u64 rfl rfl rfl) ?_
 refine At.p (some 12) (P_assign rfl rfl) ?_
 refine At.nil ?_
 refine At.next ?_
 refine At.seq ?_
 refine At.region ?_
 refine At.p (some 40) (P_move rfl rfl) ?_
 refine At.p (some 41) (P_move rfl rfl) ?_
 refine At.p (some 42) (P_mul_w UK.u64 rfl rfl rfl) ?_
 refine At.p (some 43) (P_move rfl rfl) ?_
 refine At.p (some 44) (P_add_w UK.u64 rfl rfl rfl) ?_
 refine At.p (some 45) (P_move rfl rfl) ?_
 refine At.p (some 46) (P_shr_w UK.u64 (n := 64) rfl rfl rfl (by first | decide | omega)) ?_
 refine At.p (some 47) (P_add_w UK.u64 rfl rfl rfl) ?_
 refine At.p (some 4) (P_assign rfl rfl) ?_
 refine At.nil ?_
 refine At.next ?_
 refine At.seq ?_
 refine At.region ?_
 refine At.p (some 48) (P_move rfl rfl) ?_
 refine At.p (some 49) (P_move rfl rfl) ?_
 refine At.p (some 50) (P_mul_w UK.u64 rfl rfl rfl) ?_
 refine At.p (some 5) (P_assign rfl rfl) ?_
 refine At.nil ?_
 refine At.next ?_
 refine At.ret ?_
 refine At.give (.inl rfl) [] (rows' := []) (vs := [_, _]) rfl ⟨rfl, rfl, trivial⟩ rfl (by simp) (by simp) ⟨congrArg (fun z => Value.tuple #[u64V z, u64V (x * y)]) (mul_words x y), rfl⟩

def rotR (x : BitVec 32) (n : Nat) : BitVec 32 := x <<< (32 - n) ||| x >>> n
def w64 (b s : Nat) (l : List (BitVec 64)) : Row := ⟨false, b, s, 0, l.map u64V, 0⟩
def w32 (b s : Nat) (l : List (BitVec 32)) : Row := ⟨false, b, s, 0, l.map u32V, 0⟩
def pRow (b s : Nat) (l : List (BitVec 8)) : Row := ⟨false, b, s, 0, l.map u8V, 0⟩
def agg32 (l : List (BitVec 32)) : Value := .agg (l.map u32V).toArray
def aggK (l : List (BitVec 8)) : Value := .agg (l.map u8V).toArray
def divs (p : BitVec 64) (l : List (BitVec 64)) : Bool := l.any fun q => p % q == 0#64
theorem divs_at {p : BitVec 64} {l : List (BitVec 64)} {i : Nat} (h : i < l.length) (hd : (p % l.getD i 0#64 == 0#64) = true) : divs p l = true := by
 rw [divs, List.any_eq_true]
 refine ⟨l.getD i 0#64, ?_, hd⟩
 rw [List.getD_eq_getElem?_getD, List.getElem?_eq_getElem h]
 exact List.getElem_mem h
theorem divs_none {p : BitVec 64} {l : List (BitVec 64)} (h : ∀ j, j < l.length → (p % l.getD j 0#64 == 0#64) = false) : divs p l = false := by
 rw [divs, List.any_eq_false]
 intro q hq
 obtain ⟨j, hj, rfl⟩ := List.mem_iff_getElem.1 hq
 have := h j hj
 rw [List.getD_eq_getElem?_getD, List.getElem?_eq_getElem hj] at this
 simpa using this
/-- The primes below 2 + k. -/
def prTo : Nat → List (BitVec 64)
 | 0 => []
 | k + 1 => if divs (BitVec.ofNat 64 (2 + k)) (prTo k) then prTo k else prTo k ++ [BitVec.ofNat 64 (2 + k)]
theorem prTo_nz (k : Nat) (hk : k ≤ 310) : ∀ q ∈ prTo k, q ≠ 0#64 := by
 induction k with
 | zero => intro q hq; cases hq
 | succ k ih =>
  intro q hq
  unfold prTo at hq
  split at hq
  · exact ih (by omega) q hq
  ·
   rcases List.mem_append.1 hq with h | h
   · exact ih (by omega) q h
   ·
    have hq2 : q = BitVec.ofNat 64 (2 + k) := by simpa using h
    intro h0
    have := congrArg BitVec.toNat (hq2.symm.trans h0)
    rw [BitVec.toNat_ofNat, BitVec.toNat_ofNat] at this
    omega
theorem prTo_len (k : Nat) : (prTo (k + 1)).length ≤ (prTo k).length + 1 := by
 rw [prTo]
 split
 · omega
 · simp
theorem prTo_pre {j k : Nat} (h : j ≤ k) : ∃ m, prTo k = prTo j ++ m := by
 induction k with
 | zero => exact ⟨[], by rw [show j = 0 by omega]; rfl⟩
 | succ k ih =>
  by_cases e : j = k + 1
  · subst e; exact ⟨[], by simp⟩
  ·
   obtain ⟨m, hm⟩ := ih (by omega)
   have hs : prTo (k + 1) = if divs (BitVec.ofNat 64 (2 + k)) (prTo k) then prTo k else prTo k ++ [BitVec.ofNat 64 (2 + k)] := rfl
   rw [hs]
   split
   · exact ⟨m, hm⟩
   · exact ⟨m ++ [BitVec.ofNat 64 (2 + k)], by rw [hm, List.append_assoc]⟩
theorem pr_all : (prTo 310).length = 64 := by kernel_rfl
def primesN (n : Nat) : List (BitVec 64) := (prTo 310).take n
theorem primesN_len {n : Nat} (h : n ≤ 64) : (primesN n).length = n := by rw [primesN, List.length_take, pr_all]; omega
theorem prTo_fin {k n : Nat} (hk : k ≤ 310) (h : (prTo k).length = n) : prTo k = primesN n := by
 obtain ⟨m, hm⟩ := prTo_pre hk
 rw [primesN, hm, ← h, List.take_left]
def rHigh (p next : BitVec 64) (cube : Bool) : BitVec 64 := if cube then mulH next next * next + mulH (next * next) next else mulH next next
def rLow (next : BitVec 64) (cube : Bool) : BitVec 64 := if cube then next * next * next else next * next
def rMost (p : BitVec 64) (cube : Bool) : BitVec 64 := if cube then p <<< 32 else p
def rOk (p next : BitVec 64) (cube : Bool) : Bool := decide ((rHigh p next cube).toNat < (rMost p cube).toNat) || (rHigh p next cube == rMost p cube && rLow next cube == 0#64)
def rTo (p : BitVec 64) (cube : Bool) : Nat → BitVec 64
 | 0 => 0#64
 | k + 1 => if rOk p (rTo p cube k ||| 1#64 <<< (35 - k)) cube then rTo p cube k ||| 1#64 <<< (35 - k) else rTo p cube k
def rootS (cube : Bool) (p : BitVec 64) : BitVec 32 := (rTo p cube 36).setWidth 32
def rootsN (n : Nat) (cube : Bool) : List (BitVec 32) := (primesN n).map (rootS cube)
def H0 : List (BitVec 32) := [1779033703#32, 3144134277#32, 1013904242#32, 2773480762#32, 1359893119#32, 2600822924#32, 528734635#32, 1541459225#32]
def KK : List (BitVec 32) := [1116352408#32, 1899447441#32, 3049323471#32, 3921009573#32, 961987163#32, 1508970993#32, 2453635748#32, 2870763221#32, 3624381080#32, 310598401#32, 607225278#32, 1426881987#32, 1925078388#32, 2162078206#32, 2614888103#32, 3248222580#32, 3835390401#32, 4022224774#32, 264347078#32, 604807628#32, 770255983#32, 1249150122#32, 1555081692#32, 1996064986#32, 2554220882#32, 2821834349#32, 2952996808#32, 3210313671#32, 3336571891#32, 3584528711#32, 113926993#32, 338241895#32, 666307205#32, 773529912#32, 1294757372#32, 1396182291#32, 1695183700#32, 1986661051#32, 2177026350#32, 2456956037#32, 2730485921#32, 2820302411#32, 3259730800#32, 3345764771#32, 3516065817#32, 3600352804#32, 4094571909#32, 275423344#32, 430227734#32, 506948616#32, 659060556#32, 883997877#32, 958139571#32, 1322822218#32, 1537002063#32, 1747873779#32, 1955562222#32, 2024104815#32, 2227730452#32, 2361852424#32, 2428436474#32, 2756734187#32, 3204031479#32, 3329325298#32]
theorem roots8 : rootsN 8 false = H0 := by kernel_rfl
theorem roots64 : rootsN 64 true = KK := by kernel_rfl

theorem c_rot (x : BitVec 32) (k : Nat) (h0 : 0 < k) (hk : k < 32) :
  Con Try.prog 132 [u32V x, iV (-(k : Int))] [] (fun v rs => v = u32V (rotR x k) ∧ rs = []) := by
 refine Con.enter Try.func132 Try.ntmps132 (Nat.le_of_ble_eq_true rfl) rfl fun w => ?_
 refine At.seq ?_
 refine At.region ?_
 refine At.p (some 4) (P_assign rfl rfl) ?_
 refine At.nil ?_
 refine At.next ?_
 refine At.seq ?_
 refine At.region ?_
 refine At.p (some 6) (P_move rfl rfl) ?_
 refine At.p (some 7) (P_conv_iw UK.u64 rfl Try.underlying3 Try.underlying131 rfl) ?_
 refine At.p (some 8) (P_and_w UK.u64 (b := 31#64) rfl rfl rfl) ?_
 refine At.p (some 5) (P_assign rfl rfl) ?_
 refine At.nil ?_
 refine At.next ?_
 refine At.seq ?_
 refine At.region ?_
 refine At.p (some 9) (P_move rfl rfl) ?_
 refine At.p (some 10) (P_move rfl rfl) ?_
 refine At.p (some 11) (P_shl_w UK.u32 (n := 32) rfl rfl rfl (by first | decide | omega)) ?_
 refine At.p (some 12) (P_move rfl rfl) ?_
 refine At.p (some 13) (P_move rfl rfl) ?_
 refine At.p (some 14) (P_sub_w UK.u64 (a := 32#64) rfl rfl rfl) ?_
 refine At.p (some 15) (P_shr_w UK.u32 (n := 32) rfl rfl rfl (by first | decide | omega)) ?_
 refine At.p (some 16) (P_or_w UK.u32 rfl rfl rfl) ?_
 refine At.p (some 4) (P_assign rfl rfl) ?_
 refine At.nil ?_
 refine At.next ?_
 refine At.ret ?_
 refine At.give (.inl rfl) [] (rows' := []) (vs := [_]) rfl ⟨rfl, trivial⟩ rfl (by simp) (by simp) ⟨?_, rfl⟩
 have e : (BitVec.ofInt 64 (-(k : Int)) &&& 31#64) = BitVec.ofNat 64 (32 - k) := by
  apply BitVec.eq_of_toNat_eq
  rw [BitVec.toNat_and, BitVec.toNat_ofInt, BitVec.toNat_ofNat, BitVec.toNat_ofNat]
  rw [show (31 % 2 ^ 64 : Nat) = 2 ^ 5 - 1 from rfl, Nat.and_two_pow_sub_one_eq_mod]
  omega
 have e2 : (32#64 - BitVec.ofNat 64 (32 - k)).toNat = k := by
  rw [BitVec.toNat_sub, BitVec.toNat_ofNat, BitVec.toNat_ofNat]
  omega
 rw [e, retV]
 simp only [rotR, Int.toNat_natCast, e2]
 have e3 : (BitVec.ofNat 64 (32 - k)).toNat = 32 - k := by rw [BitVec.toNat_ofNat]; omega
 rw [e3]

theorem c_right (x : BitVec 32) (k : Nat) (h0 : 0 < k) (hk : k < 32) :
  Con Try.prog 107 [u32V x, iV (k : Int)] [] (fun v rs => v = u32V (rotR x k) ∧ rs = []) := by
 refine Con.enter Try.func107 Try.ntmps107 (Nat.le_of_ble_eq_true rfl) rfl fun w => ?_
 refine At.seq ?_
 refine At.region ?_
 refine At.p (some 4) (P_assign rfl rfl) ?_
 refine At.nil ?_
 refine At.next ?_
 refine At.seq ?_
 refine At.region ?_
 refine At.p (some 5) (P_move rfl rfl) ?_
 refine At.p (some 6) (P_move rfl rfl) ?_
 refine At.p (some 7) (P_neg_i rfl rfl (by omega)) ?_
 refine At.s (S_callV (some 8) [] [] (vs := [_, _]) rfl en132 rfl V0 (by simp) (c_rot x k h0 hk) (by rintro _ _ ⟨rfl, rfl⟩; rfl) ?_)
 rintro _ _ ⟨rfl, rfl⟩
 refine At.p (some 4) (P_assign rfl rfl) ?_
 refine At.nil ?_
 refine At.next ?_
 refine At.ret ?_
 refine At.give (.inl rfl) [] (rows' := []) (vs := [_]) rfl ⟨rfl, trivial⟩ rfl (by simp) (by simp) ⟨rfl, rfl⟩

theorem c_pred (p q : BitVec 64) (bp : Nat) (hq : q ≠ 0#64) :
  Con Try.prog 131 [u64V q, ptr bp 0] [⟨false, bp, 0, 66, [u64V p], 0⟩] (fun v rs => v = .bool (p % q == 0#64) ∧ rs = []) := by
 refine Con.enter Try.func131 Try.ntmps131 (Nat.le_of_ble_eq_true rfl) rfl fun w => ?_
 refine At.seq ?_
 refine At.region ?_
 refine At.p (some 3) (P_assign rfl rfl) ?_
 refine At.nil ?_
 refine At.next ?_
 refine At.seq ?_
 refine At.region ?_
 refine At.q (some 4) (Q_loadO (k := 0) rfl rfl Try.underlying66 rfl rfl rfl) ?_
 refine At.p (some 5) (P_move rfl rfl) ?_
 refine At.p (some 6) (P_rem_w UK.u64 rfl rfl rfl hq) ?_
 refine At.p (some 7) (P_eql_w (n := 64) (b := 0#64) rfl rfl rfl) ?_
 refine At.p (some 3) (P_assign rfl rfl) ?_
 refine At.nil ?_
 refine At.next ?_
 refine At.ret ?_
 refine At.give (.inl rfl) [] (rows' := []) (vs := [_]) rfl ⟨rfl, trivial⟩ rfl (by simp) (by simp) ⟨rfl, rfl⟩

theorem c_IndexFunc (A : Option Addr) (l : List (BitVec 64)) (ca bq q bp : Nat) (p : BitVec 64) (hA : 0 < l.length → A = some ⟨bq, q, none⟩) (hz : ∀ q ∈ l, q ≠ 0#64) (hl : l.length ≤ 1000000) :
  Con Try.prog 144 [.slice A l.length ca, .func (.func 131) #[] #[ptr bp 0]] [w64 bq q l, ⟨false, bp, 0, 66, [u64V p], 0⟩] (fun v rs => ∃ z : Int, v = iV z ∧ (0 ≤ z ↔ divs p l = true) ∧ -1 ≤ z ∧ z ≤ 1000000 ∧ rs = []) := by
 refine Con.enter Try.func144 Try.ntmps144 (Nat.le_of_ble_eq_true rfl) rfl fun w => ?_
 refine At.seq ?_
 refine At.region ?_
 refine At.p (some 4) (P_assign rfl rfl) ?_
 refine At.nil ?_
 refine At.next ?_
 refine At.seq ?_
 refine At.seq ?_
 refine At.region ?_
 refine At.p (some 6) (P_move rfl rfl) ?_
 refine At.p (some 7) (P_len_sl rfl rfl ⟨_, Try.underlying147⟩ rfl) ?_
 refine At.p (some 8) (P_move rfl rfl) ?_
 refine At.nil ?_
 refine At.next ?_
 refine At.block ?_
 refine At.loopx (I := fun m fr H => ∃ i, m = l.length - i ∧ fr = frOf [(0, .slice A l.length ca), (1, .func (.func 131) #[] #[ptr bp 0]), (7, iV (l.length : Int)), (8, iV (i : Int))] ∧ H = hOf [(0, w64 bq q l), (1, ⟨false, bp, 0, 66, [u64V p], 0⟩)] ∧ i ≤ l.length ∧ ∀ j, j < i → (p % l.getD j 0#64 == 0#64) = false) ?_ ?_
 ·
  intro Kc0 hKc0
  refine At.to [(0, _), (1, _), (7, _), (8, _)] [(0, _), (1, _)] (AllL.cons_ (rfl) (AllL.cons_ (rfl) (AllL.cons_ (rfl) (AllL.cons_ (rfl) trivial)))) (AllL.cons_ (rfl) (AllL.cons_ (rfl) trivial)) ?_
  exact hKc0 _ _ _ ⟨0, rfl, rfl, rfl, by omega, fun j hj => absurd hj (by omega)⟩
 ·
  rintro m fr H ⟨i, rfl, rfl, rfl, hi, hno⟩ Kc0 hKc0
  refine At.seq ?_
  refine At.region ?_
  refine At.p (some 9) (P_cmp rfl rfl rfl rfl rfl rfl) ?_
  refine At.nil ?_
  refine At.next ?_
  refine At.seq ?_
  refine At.cond rfl (fun h9 => ?_) (fun h9 => ?_)
  · -- cond 9 t
   have hlt : i < l.length := by simp at h9; omega
   have hq : l.getD i 0#64 ≠ 0#64 := by rw [List.getD_eq_getElem?_getD, List.getElem?_eq_getElem hlt]; exact hz _ (List.getElem_mem hlt)
   refine At.skip ?_
   refine At.next ?_
   refine At.seq ?_
   refine At.block ?_
   refine At.seq ?_
   refine At.region ?_
   refine At.p (some 10) (P_move rfl rfl) ?_
   refine At.p (some 5) (P_assign rfl rfl) ?_
   refine At.nil ?_
   refine At.next ?_
   refine At.seq ?_
   refine At.region ?_
   refine At.p (some 11) (P_move rfl rfl) ?_
   refine At.p (some 12) (P_move rfl rfl) ?_
   refine At.p (some 13) (P_move rfl rfl) ?_
   refine At.p (some 14) (P_indexAddr_sl1 rfl Try.underlying147 sz66 rfl (hA (by omega)) rfl rfl (by omega)) ?_
   refine At.q (some 15) (Q_loadR (l := l) (k := 0) (j := i) (0#64) rfl rfl Try.underlying66 rfl rfl rfl (by omega)) ?_
   refine At.s (S_callC (some 16) [(1, ⟨false, bp, 0, 66, [u64V p], 0⟩)] [] (f := 131) (vs := [_]) (lb := [ptr bp 0]) rfl rfl en131 rfl (VN (by simp) rfl View.all V0) (by simp) (c_pred p (l.getD i 0#64) bp hq) (by rintro _ _ ⟨rfl, rfl⟩; rfl) ?_)
   rintro _ _ ⟨rfl, rfl⟩
   refine At.nil ?_
   refine At.next ?_
   refine At.cond rfl (fun h16 => ?_) (fun h16 => ?_)
   · -- cond 16 t
    refine At.seq ?_
    refine At.region ?_
    refine At.p (some 17) (P_move rfl rfl) ?_
    refine At.p (some 4) (P_assign rfl rfl) ?_
    refine At.nil ?_
    refine At.next ?_
    refine At.ret ?_
    refine At.inb_r ?_
    refine At.thn_r ?_
    refine At.thn_r ?_
    refine At.inb_r ?_
    refine At.thn_r ?_
    refine At.give (.inl rfl) [] (rows' := []) (vs := [_]) rfl ⟨rfl, trivial⟩ rfl (by simp) (by simp) ⟨_, rfl, by rw [divs_at hlt (by simpa using h16)]; simp, by omega, by omega, rfl⟩
   · -- cond 16 f
    have hdv : (p % l.getD i 0#64 == 0#64) = false := by simpa using h16
    refine At.skip ?_
    refine At.inb_n ?_
    refine At.next ?_
    refine At.region ?_
    refine At.p (some 18) (P_add_i rfl rfl rfl (by omega)) ?_
    refine At.p (some 8) (P_move rfl rfl) ?_
    refine At.nil ?_
    refine At.next ?_
    refine At.to [(0, _), (1, _), (7, _), (8, _)] [(0, _), (1, _)] (AllL.cons_ (rfl) (AllL.cons_ (rfl) (AllL.cons_ (rfl) (AllL.cons_ (rfl) trivial)))) (AllL.cons_ (rfl) (AllL.cons_ (rfl) trivial)) ?_
    exact hKc0 _ _ _ (by omega) ⟨i + 1, rfl, rfl, rfl, by omega, fun j hj => by by_cases e : j = i; subst e; exact hdv; exact hno j (by omega)⟩
  · -- cond 9 f
   obtain rfl : i = l.length := by simp at h9; omega
   refine At.exit ?_
   refine At.thn_e ?_
   refine At.thn_e ?_
   refine At.inb_hit ?_
   refine At.next ?_
   refine At.seq ?_
   refine At.region ?_
   refine At.p (some 4) (P_assign rfl rfl) ?_
   refine At.nil ?_
   refine At.next ?_
   refine At.ret ?_
   refine At.give (.inl rfl) [] (rows' := []) (vs := [_]) rfl ⟨rfl, trivial⟩ rfl (by simp) (by simp) ⟨_, rfl, by rw [divs_none hno]; decide, by omega, by omega, rfl⟩

theorem c_ContainsFunc (A : Option Addr) (l : List (BitVec 64)) (ca bq q bp : Nat) (p : BitVec 64) (hA : 0 < l.length → A = some ⟨bq, q, none⟩) (hz : ∀ q ∈ l, q ≠ 0#64) (hl : l.length ≤ 1000000) :
  Con Try.prog 130 [.slice A l.length ca, .func (.func 131) #[] #[ptr bp 0]] [w64 bq q l, ⟨false, bp, 0, 66, [u64V p], 0⟩] (fun v rs => v = .bool (divs p l) ∧ rs = []) := by
 refine Con.enter Try.func130 Try.ntmps130 (Nat.le_of_ble_eq_true rfl) rfl fun w => ?_
 refine At.seq ?_
 refine At.region ?_
 refine At.p (some 4) (P_assign rfl rfl) ?_
 refine At.nil ?_
 refine At.next ?_
 refine At.seq ?_
 refine At.region ?_
 refine At.p (some 5) (P_move rfl rfl) ?_
 refine At.p (some 6) (P_move rfl rfl) ?_
 refine At.s (S_callV (some 7) [(0, _), (1, _)] [] (vs := [_, _]) rfl en144 rfl (VN (by simp) rfl View.all (VN (by simp) rfl View.all V0)) (by simp) (c_IndexFunc A l ca bq q bp p hA hz hl) (by rintro _ _ ⟨z, rfl, hz1, hz2, hz3, rfl⟩; rfl) ?_)
 rintro _ _ ⟨z, rfl, hz1, hz2, hz3, rfl⟩
 refine At.p (some 8) (P_cmp rfl rfl rfl rfl rfl rfl) ?_
 refine At.p (some 4) (P_assign rfl rfl) ?_
 refine At.nil ?_
 refine At.next ?_
 refine At.ret ?_
 refine At.give (.inl rfl) [] (rows' := []) (vs := [_]) rfl ⟨rfl, trivial⟩ rfl (by simp) (by simp) ⟨congrArg Value.bool (by rw [Bool.eq_iff_iff]; simpa using hz1), rfl⟩

theorem c_primes (n : Nat) (hn : n ≤ 64) :
  Con Try.prog 104 [iV (n : Int)] [] (fun v rs => ∃ A b c, (0 < c → A = some ⟨b, 0, none⟩) ∧ n ≤ c ∧ v = .slice A n c ∧ rs = [⟨true, b, 0, 66, (primesN n).map u64V, c - n⟩]) := by
 refine Con.enter Try.func104 Try.ntmps104 (Nat.le_of_ble_eq_true rfl) rfl fun w => ?_
 refine At.seq ?_
 refine At.region ?_
 refine At.p (some 2) (P_assign rfl rfl) ?_
 refine At.nil ?_
 refine At.next ?_
 refine At.seq ?_
 refine At.region ?_
 refine At.p (some 3) (P_assign rfl rfl) ?_
 refine At.nil ?_
 refine At.next ?_
 refine At.seq ?_
 refine At.seq ?_
 refine At.empty 3 0 66 ?_
 refine At.region ?_
 refine At.s (S_alloc (some 4) 4 (zs := [u64V 0#64]) rfl ze66 rfl (fun b4 => ?_))
 refine At.s (S_store none (k := 4) rfl rfl rfl sz66 rfl rfl rfl WD ?_)
 refine At.nil ?_
 refine At.next ?_
 refine At.block ?_
 refine At.loopx (I := fun m fr H => ∃ (k : Nat) (b3 c3 b4 : Nat) (A3 : Option Addr), m = 310 - k ∧ fr = frOf [(0, iV (n : Int)), (3, .slice A3 (prTo k).length c3), (4, ptr b4 0)] ∧ H = hOf [(3, ⟨true, b3, 0, 66, (prTo k).map u64V, c3 - (prTo k).length⟩), (4, ⟨true, b4, 0, 66, [u64V (BitVec.ofNat 64 (2 + k))], 0⟩)] ∧ k ≤ 310 ∧ (prTo k).length ≤ n ∧ (0 < c3 → A3 = some ⟨b3, 0, none⟩) ∧ (prTo k).length ≤ c3) ?_ ?_
 ·
  intro Kc0 hKc0
  refine At.to [(0, _), (3, _), (4, _)] [(3, ⟨true, 0, 0, 66, (prTo 0).map u64V, 0 - (prTo 0).length⟩), (4, ⟨true, b4, 0, 66, [u64V (BitVec.ofNat 64 (2 + 0))], 0⟩)] (AllL.cons_ (rfl) (AllL.cons_ (rfl) (AllL.cons_ (rfl) trivial))) (AllL.cons_ (rfl) (AllL.cons_ (rfl) trivial)) ?_
  exact hKc0 _ _ _ ⟨0, 0, 0, b4, none, rfl, rfl, rfl, by omega, by simp [prTo], fun h => absurd h (by decide), by simp [prTo]⟩
 ·
  rintro m fr H ⟨k, b3, c3, b4, A3, rfl, rfl, rfl, hk, hkn, hA3, hc3⟩ Kc0 hKc0
  refine At.seq ?_
  refine At.seq ?_
  refine At.region ?_
  refine At.p (some 5) (P_move rfl rfl) ?_
  refine At.p (some 6) (P_len_sl rfl rfl ⟨_, Try.underlying147⟩ rfl) ?_
  refine At.p (some 7) (P_move rfl rfl) ?_
  refine At.p (some 8) (P_cmp rfl rfl rfl rfl rfl rfl) ?_
  refine At.nil ?_
  refine At.next ?_
  refine At.cond rfl (fun h8 => ?_) (fun h8 => ?_)
  · -- cond 8 t
   have hlt : (prTo k).length < n := by simp at h8; omega
   have hk1 : k < 310 := by
    apply Decidable.byContradiction
    intro hh
    obtain rfl : k = 310 := by omega
    rw [pr_all] at hlt
    omega
   have hl1 := prTo_len k
   refine At.skip ?_
   refine At.next ?_
   refine At.seq ?_
   refine At.block ?_
   refine At.seq ?_
   refine At.region ?_
   refine At.p (some 11) (P_move rfl rfl) ?_
   refine At.p (some 12) (P_makeFunc (vs := [_]) rfl rfl) ?_
   refine At.s (S_callV (some 13) [(3, _), (4, _)] [] (vs := [_, _]) rfl en130 rfl (VN (by simp) rfl View.all (VN (by simp) rfl View.all V0)) (by simp) (c_ContainsFunc A3 (prTo k) c3 b3 0 b4 (BitVec.ofNat 64 (2 + k)) (fun h => hA3 (by omega)) (prTo_nz k hk) (by omega)) (by rintro _ _ ⟨rfl, rfl⟩; rfl) ?_)
   rintro _ _ ⟨rfl, rfl⟩
   refine At.p (some 14) (P_not rfl rfl) ?_
   refine At.nil ?_
   refine At.next ?_
   refine At.cond rfl (fun h14 => ?_) (fun h14 => ?_)
   · -- cond 14 t
    have hpr : prTo (k + 1) = prTo k ++ [BitVec.ofNat 64 (2 + k)] := by rw [prTo, if_neg (by simpa using h14)]
    have hlen1 : (prTo (k + 1)).length ≤ n := by omega
    refine At.region ?_
    refine At.p (some 15) (P_move rfl rfl) ?_
    refine At.q (some 16) (Q_loadO (k := 4) rfl rfl Try.underlying66 rfl rfl rfl) ?_
    refine At.s (S_buildSliceV (some 17) 17 ([BitVec.ofNat 64 (2 + k)].map u64V) rfl Try.underlying147 sz66 ze66 rfl rfl (by decide) (by decide) rfl rfl (fun b17 => ?_))
    refine At.s (S_appendM (some 18) 3 (prTo (k + 1)) (f := u64V) (l := prTo k) (L := [BitVec.ofNat 64 (2 + k)]) rfl Try.underlying147 Try.underlying147 (.inr ⟨_, rfl⟩) sz66 by66 ze66 rfl rfl (fun h => ⟨hA3 h, rfl⟩) rfl (by omega) (Src.row (k := 17) (j := 0) rfl (fun _ => rfl) (fun _ => ⟨rfl, rfl, rfl⟩) rfl rfl) (fun _ => rfl) (by omega) (by omega) hpr.symm rfl ?_)
    intro A3 b3 c3 g1 g2
    refine At.p (some 3) (P_assign rfl rfl) ?_
    refine At.nil ?_
    refine At.inb_n ?_
    refine At.next ?_
    refine At.seq ?_
    refine At.seq ?_
    refine At.region ?_
    refine At.q (some 19) (Q_loadO (k := 4) rfl rfl Try.underlying66 rfl rfl rfl) ?_
    refine At.nil ?_
    refine At.next ?_
    refine At.region ?_
    refine At.s (S_alloc (some 4) 4 (zs := [u64V 0#64]) rfl ze66 rfl (fun b4 => ?_))
    refine At.s (S_store none (k := 4) rfl rfl rfl sz66 rfl rfl rfl WD ?_)
    refine At.nil ?_
    refine At.next ?_
    refine At.region ?_
    refine At.q (some 9) (Q_loadO (k := 4) rfl rfl Try.underlying66 rfl rfl rfl) ?_
    refine At.p (some 10) (P_add_w UK.u64 (b := 1#64) rfl rfl rfl) ?_
    refine At.s (S_store none (k := 4) rfl rfl rfl sz66 rfl rfl rfl WD ?_)
    refine At.nil ?_
    refine At.next ?_
    refine At.to [(0, _), (3, _), (4, _)] [(3, _), (4, ⟨true, b4, 0, 66, [u64V (BitVec.ofNat 64 (2 + (k + 1)))], 0⟩)] (AllL.cons_ (rfl) (AllL.cons_ (rfl) (AllL.cons_ (rfl) trivial))) (AllL.cons_ (rfl) (AllL.cons_ (congrArg (fun z => some (⟨true, b4, 0, 66, [u64V z], 0⟩ : Row)) (BitVec.ofNat_add (2 + k) 1).symm) trivial)) ?_
    exact hKc0 _ _ _ (by omega) ⟨k + 1, _, _, b4, _, rfl, rfl, rfl, by omega, hlen1, by first | exact g1 | exact hA3, by first | exact g2 | (rw [hpr]; exact hc3)⟩
   · -- cond 14 f
    have hpr : prTo (k + 1) = prTo k := by rw [prTo, if_pos (by simpa using h14)]
    have hlen1 : (prTo (k + 1)).length ≤ n := by rw [hpr]; omega
    rw [← hpr]
    refine At.skip ?_
    refine At.inb_n ?_
    refine At.next ?_
    refine At.seq ?_
    refine At.seq ?_
    refine At.region ?_
    refine At.q (some 19) (Q_loadO (k := 4) rfl rfl Try.underlying66 rfl rfl rfl) ?_
    refine At.nil ?_
    refine At.next ?_
    refine At.region ?_
    refine At.s (S_alloc (some 4) 4 (zs := [u64V 0#64]) rfl ze66 rfl (fun b4 => ?_))
    refine At.s (S_store none (k := 4) rfl rfl rfl sz66 rfl rfl rfl WD ?_)
    refine At.nil ?_
    refine At.next ?_
    refine At.region ?_
    refine At.q (some 9) (Q_loadO (k := 4) rfl rfl Try.underlying66 rfl rfl rfl) ?_
    refine At.p (some 10) (P_add_w UK.u64 (b := 1#64) rfl rfl rfl) ?_
    refine At.s (S_store none (k := 4) rfl rfl rfl sz66 rfl rfl rfl WD ?_)
    refine At.nil ?_
    refine At.next ?_
    refine At.to [(0, _), (3, _), (4, _)] [(3, _), (4, ⟨true, b4, 0, 66, [u64V (BitVec.ofNat 64 (2 + (k + 1)))], 0⟩)] (AllL.cons_ (rfl) (AllL.cons_ (rfl) (AllL.cons_ (rfl) trivial))) (AllL.cons_ (rfl) (AllL.cons_ (congrArg (fun z => some (⟨true, b4, 0, 66, [u64V z], 0⟩ : Row)) (BitVec.ofNat_add (2 + k) 1).symm) trivial)) ?_
    exact hKc0 _ _ _ (by omega) ⟨k + 1, _, _, b4, _, rfl, rfl, rfl, by omega, hlen1, by first | exact g1 | exact hA3, by first | exact g2 | (rw [hpr]; exact hc3)⟩
  · -- cond 8 f
   have hkl : (prTo k).length = n := by simp at h8; omega
   refine At.exit ?_
   refine At.thn_e ?_
   refine At.thn_e ?_
   refine At.inb_hit ?_
   refine At.next ?_
   refine At.seq ?_
   refine At.region ?_
   refine At.p (some 20) (P_move rfl rfl) ?_
   refine At.p (some 2) (P_assign rfl rfl) ?_
   refine At.nil ?_
   refine At.next ?_
   refine At.ret ?_
   refine At.give (.inl rfl) [3] (rows' := [_]) (vs := [_]) rfl ⟨rfl, trivial⟩ rfl (by simp) (by simp) ⟨A3, b3, c3, hA3, hkl ▸ hc3, by rw [← hkl]; rfl, by rw [← prTo_fin hk hkl, hkl]⟩

def wStep (b : List (BitVec 8)) (w : List (BitVec 32)) (i : Nat) : List (BitVec 32) := w.set (i / 4) (w.getD (i / 4) 0#32 <<< 8 ||| (b.getD i 0#8).setWidth 32)
def wTo (b : List (BitVec 8)) : Nat → List (BitVec 32)
 | 0 => List.replicate 64 0#32
 | i + 1 => wStep b (wTo b i) i
theorem wTo_len (b : List (BitVec 8)) (i : Nat) : (wTo b i).length = 64 := by
 induction i with
 | zero => simp [wTo]
 | succ i ih => simp [wTo, wStep, ih]
def sprAt (w : List (BitVec 32)) (i : Nat) : BitVec 32 := w.getD (i - 16) 0#32 + w.getD (i - 7) 0#32 + (rotR (w.getD (i - 15) 0#32) 7 ^^^ rotR (w.getD (i - 15) 0#32) 18 ^^^ w.getD (i - 15) 0#32 >>> 3) + (rotR (w.getD (i - 2) 0#32) 17 ^^^ rotR (w.getD (i - 2) 0#32) 19 ^^^ w.getD (i - 2) 0#32 >>> 10)
def sTo (b : List (BitVec 8)) : Nat → List (BitVec 32)
 | 0 => wTo b 64
 | k + 1 => (sTo b k).set (16 + k) (sprAt (sTo b k) (16 + k))
theorem sTo_len (b : List (BitVec 8)) (i : Nat) : (sTo b i).length = 64 := by
 induction i with
 | zero => exact wTo_len b 64
 | succ i ih => simp [sTo, ih]
def spreadS (b : List (BitVec 8)) : List (BitVec 32) := sTo b 48
def chS (e f g : BitVec 32) : BitVec 32 := e &&& f ||| ~~~ e &&& g
def majS (a b c : BitVec 32) : BitVec 32 := a &&& b ||| a &&& c ||| b &&& c
def tS (v : List (BitVec 32)) (k w : BitVec 32) : BitVec 32 := v.getD 7 0#32 + (rotR (v.getD 4 0#32) 6 ^^^ rotR (v.getD 4 0#32) 11 ^^^ rotR (v.getD 4 0#32) 25) + chS (v.getD 4 0#32) (v.getD 5 0#32) (v.getD 6 0#32) + k + w
def uS (v : List (BitVec 32)) : BitVec 32 := (rotR (v.getD 0 0#32) 2 ^^^ rotR (v.getD 0 0#32) 13 ^^^ rotR (v.getD 0 0#32) 22) + majS (v.getD 0 0#32) (v.getD 1 0#32) (v.getD 2 0#32)
def rnd (v : List (BitVec 32)) (k w : BitVec 32) : List (BitVec 32) := [tS v k w + uS v, v.getD 0 0#32, v.getD 1 0#32, v.getD 2 0#32, v.getD 3 0#32 + tS v k w, v.getD 4 0#32, v.getD 5 0#32, v.getD 6 0#32]
def vTo (K W s : List (BitVec 32)) : Nat → List (BitVec 32)
 | 0 => s
 | i + 1 => rnd (vTo K W s i) (K.getD i 0#32) (W.getD i 0#32)
theorem vTo_len {K W s : List (BitVec 32)} (hs : s.length = 8) (i : Nat) : (vTo K W s i).length = 8 := by
 cases i with
 | zero => exact hs
 | succ i => rfl
def addTo (s v : List (BitVec 32)) (i : Nat) : List (BitVec 32) := (List.range 8).map fun j => if j < i then s.getD j 0#32 + v.getD j 0#32 else s.getD j 0#32
theorem addTo_len (s v : List (BitVec 32)) (i : Nat) : (addTo s v i).length = 8 := by simp [addTo]
theorem addTo_0 {s : List (BitVec 32)} (v : List (BitVec 32)) (h : s.length = 8) : addTo s v 0 = s := by
 apply List.ext_getElem (by rw [addTo_len, h])
 intro j h1 h2
 simp [addTo, List.getD_eq_getElem?_getD, h2]
theorem addTo_at (s v : List (BitVec 32)) {i j : Nat} (h : i < 8) (hj : j ≤ i) : (addTo s v j).getD i 0#32 = s.getD i 0#32 := by
 have : ¬ i < j := by omega
 simp [addTo, List.getD_eq_getElem?_getD, h, this]
theorem addTo_set (s v : List (BitVec 32)) {i : Nat} (h : i < 8) : (addTo s v i).set i (s.getD i 0#32 + v.getD i 0#32) = addTo s v (i + 1) := by
 apply List.ext_getElem (by simp [addTo_len])
 intro j h1 h2
 rw [List.getElem_set]
 by_cases e : i = j
 ·
  subst e
  simp [addTo]
 ·
  have : (j < i) = (j < i + 1) := by simp; omega
  simp [e, addTo, this]
def mixB (s : List (BitVec 32)) (b : List (BitVec 8)) : List (BitVec 32) := addTo s (vTo KK (spreadS b) s 64) 8
theorem eight {α : Type} {v : List α} (h : v.length = 8) : ∃ a b c d e f g i, v = [a, b, c, d, e, f, g, i] := by
 match v, h with
 | [a, b, c, d, e, f, g, i], _ => exact ⟨a, b, c, d, e, f, g, i, rfl⟩
/-- The bytes with their length behind. -/
def padZ (n : Nat) : Nat := (119 - n % 64) % 64
def bits8 (n : Nat) : BitVec 64 := 8#64 * BitVec.ofInt 64 (n : Int)
def lenB (n k : Nat) : List (BitVec 8) := (List.range k).map fun i => (bits8 n >>> (8 * (7 - i))).setWidth 8
def padS (l : List (BitVec 8)) : List (BitVec 8) := l ++ [128#8] ++ List.replicate (padZ l.length) 0#8 ++ lenB l.length 8
theorem lenB_len (n k : Nat) : (lenB n k).length = k := by simp [lenB]
theorem lenB_succ (n k : Nat) : lenB n k ++ [(bits8 n >>> (8 * (7 - k))).setWidth 8] = lenB n (k + 1) := by simp [lenB, List.range_succ]
theorem padS_len (l : List (BitVec 8)) : (padS l).length = l.length + 9 + padZ l.length := by
 simp [padS, lenB_len]
 omega
theorem padS_mod (l : List (BitVec 8)) : (padS l).length % 64 = 0 := by
 rw [padS_len]
 unfold padZ
 omega
def nB (l : List (BitVec 8)) : Nat := (padS l).length / 64
def blk (l : List (BitVec 8)) (n : Nat) : List (BitVec 8) := (padS l).drop (64 * n)
def hTo (l : List (BitVec 8)) : Nat → List (BitVec 32)
 | 0 => H0
 | n + 1 => mixB (hTo l n) (blk l n)
theorem hTo_len (l : List (BitVec 8)) (n : Nat) : (hTo l n).length = 8 := by
 cases n with
 | zero => rfl
 | succ n => exact addTo_len _ _ _
def outB (h : List (BitVec 32)) (i : Nat) : BitVec 8 := (h.getD (i / 4) 0#32 >>> (24 - 8 * (i % 4))).setWidth 8
def outN (h : List (BitVec 32)) (k : Nat) : List (BitVec 8) := (List.range k).map (outB h) ++ List.replicate (32 - k) 0#8
theorem outN_len (h : List (BitVec 32)) {k : Nat} (hk : k ≤ 32) : (outN h k).length = 32 := by simp [outN]; omega
theorem outN_set (h : List (BitVec 32)) {k : Nat} (hk : k < 32) : (outN h k).set k (outB h k) = outN h (k + 1) := fill_set (outB h) 0#8 hk
def sumS (l : List (BitVec 8)) : List (BitVec 8) := (List.range 32).map (outB (hTo l (nB l)))
theorem sumS_len (l : List (BitVec 8)) : (sumS l).length = 32 := by simp [sumS]
theorem outN_fin (h : List (BitVec 32)) : outN h 32 = (List.range 32).map (outB h) := by simp [outN]
def rtk (n : Nat) (cube : Bool) (i : Nat) : List (BitVec 32) := ((primesN n).take i).map (rootS cube)
theorem rtk_len {n : Nat} (cube : Bool) {i : Nat} (hn : n ≤ 64) (h : i ≤ n) : (rtk n cube i).length = i := by
 rw [rtk, List.length_map, List.length_take, primesN_len hn]
 omega
theorem rtk_succ {n : Nat} (cube : Bool) {i : Nat} (hn : n ≤ 64) (h : i < n) : rtk n cube i ++ [rootS cube ((primesN n).getD i 0#64)] = rtk n cube (i + 1) := by
 have hl : i < (primesN n).length := by rw [primesN_len hn]; exact h
 rw [rtk, rtk, List.take_succ_eq_append_getElem hl, List.map_append, List.getD_eq_getElem?_getD, List.getElem?_eq_getElem hl]
 rfl
theorem rtk_fin {n : Nat} (cube : Bool) (hn : n ≤ 64) : rtk n cube n = rootsN n cube := by
 rw [rtk, List.take_of_length_le (by rw [primesN_len hn]; exact Nat.le_refl _)]
 rfl
theorem mix_row {v : List (BitVec 32)} (h : v.length = 8) (t u : BitVec 32) : ((splice v 1 (v.take 7)).set 4 ((splice v 1 (v.take 7)).getD 4 0#32 + t)).set 0 (t + u) = [t + u, v.getD 0 0#32, v.getD 1 0#32, v.getD 2 0#32, v.getD 3 0#32 + t, v.getD 4 0#32, v.getD 5 0#32, v.getD 6 0#32] := by
 obtain ⟨a, b, c, d, e, f, g, i, rfl⟩ := eight h
 rfl
theorem splice_len7 {v : List (BitVec 32)} (h : v.length = 8) : (splice v 1 (v.take 7)).length = 8 := by
 obtain ⟨a, b, c, d, e, f, g, i, rfl⟩ := eight h
 rfl
def padA (l : List (BitVec 8)) : Nat → List (BitVec 8)
 | 0 => l ++ [128#8]
 | z + 1 => padA l z ++ [0#8]
theorem padA_eq (l : List (BitVec 8)) (z : Nat) : padA l z = l ++ [128#8] ++ List.replicate z 0#8 := by
 induction z with
 | zero => simp [padA]
 | succ z ih => rw [padA, ih, List.replicate_succ', List.append_assoc _ _ [0#8]]
theorem padA_len (l : List (BitVec 8)) (z : Nat) : (padA l z).length = l.length + 1 + z := by
 rw [padA_eq]
 simp
 omega
def padC (l : List (BitVec 8)) : Nat → List (BitVec 8)
 | 0 => padA l (padZ l.length)
 | e + 1 => padC l e ++ [(bits8 l.length >>> (8 * (7 - e))).setWidth 8]
theorem padC_eq (l : List (BitVec 8)) (e : Nat) : padC l e = l ++ [128#8] ++ List.replicate (padZ l.length) 0#8 ++ lenB l.length e := by
 induction e with
 | zero => rw [padC, padA_eq]; simp [lenB]
 | succ e ih => rw [padC, ih, ← lenB_succ, List.append_assoc _ (lenB l.length e)]
theorem padC_8 (l : List (BitVec 8)) : padC l 8 = padS l := padC_eq l 8
theorem padC_len (l : List (BitVec 8)) (e : Nat) : (padC l e).length = l.length + 1 + padZ l.length + e := by
 rw [padC_eq]
 simp [lenB_len]
 omega
theorem padZ_lt (n : Nat) : padZ n < 64 := by unfold padZ; omega
theorem c_root (p : BitVec 64) (cube : Bool) :
  Con Try.prog 105 [u64V p, .bool cube] [] (fun v rs => v = u32V (rootS cube p) ∧ rs = []) := by
 refine Con.enter Try.func105 Try.ntmps105 (Nat.le_of_ble_eq_true rfl) rfl fun w => ?_
 refine At.seq ?_
 refine At.region ?_
 refine At.p (some 4) (P_assign rfl rfl) ?_
 refine At.nil ?_
 refine At.next ?_
 refine At.seq ?_
 refine At.region ?_
 refine At.p (some 5) (P_assign rfl rfl) ?_
 refine At.nil ?_
 refine At.next ?_
 refine At.seq ?_
 refine At.seq ?_
 refine At.region ?_
 refine At.p (some 6) (P_assign rfl rfl) ?_
 refine At.nil ?_
 refine At.next ?_
 refine At.block ?_
 refine At.loopx (I := fun m fr H => ∃ k, m = 36 - k ∧ fr = frOf [(0, u64V p), (1, .bool cube), (5, u64V (rTo p cube k)), (6, iV (35 - (k : Int)))] ∧ H = hOf [] ∧ k ≤ 36) ?_ ?_
 ·
  intro Kc0 hKc0
  refine At.to [(0, _), (1, _), (5, _), (6, iV (35 - ((0 : Nat) : Int)))] [] (AllL.cons_ (rfl) (AllL.cons_ (rfl) (AllL.cons_ (rfl) (AllL.cons_ (rfl) trivial)))) trivial ?_
  exact hKc0 _ _ _ ⟨0, rfl, rfl, rfl, by omega⟩
 ·
  rintro m fr H ⟨k, rfl, rfl, rfl, hk⟩ Kc0 hKc0
  refine At.seq ?_
  refine At.seq ?_
  refine At.region ?_
  refine At.p (some 13) (P_move rfl rfl) ?_
  refine At.p (some 14) (P_cmp rfl rfl rfl rfl rfl rfl) ?_
  refine At.nil ?_
  refine At.next ?_
  refine At.cond rfl (fun h14 => ?_) (fun h14 => ?_)
  · -- cond 14 t
   have hlt : k < 36 := by simp at h14; omega
   have hnk : (35 - (k : Int)).toNat = 35 - k := by omega
   refine At.skip ?_
   refine At.next ?_
   refine At.seq ?_
   refine At.block ?_
   refine At.seq ?_
   refine At.region ?_
   refine At.p (some 17) (P_move rfl rfl) ?_
   refine At.p (some 18) (P_move rfl rfl) ?_
   refine At.p (some 19) (P_shl_w UK.u64 (n := 64) (a := 1#64) rfl rfl rfl (by first | decide | omega)) ?_
   refine At.p (some 20) (P_or_w UK.u64 rfl rfl rfl) ?_
   refine At.p (some 7) (P_assign rfl rfl) ?_
   refine At.nil ?_
   refine At.next ?_
   refine At.seq ?_
   refine At.region ?_
   refine At.p (some 22) (P_move rfl rfl) ?_
   refine At.p (some 23) (P_move rfl rfl) ?_
   refine At.s (S_callV (some 24) [] [] (vs := [_, _]) rfl en129 rfl V0 (by simp) (c_mul _ _) (by rintro _ _ ⟨rfl, rfl⟩; rfl) ?_)
   rintro _ _ ⟨rfl, rfl⟩
   refine At.p (some 21) (P_move rfl rfl) ?_
   refine At.p (some 25) (P_extract rfl rfl rfl) ?_
   refine At.p (some 26) (P_extract rfl rfl rfl) ?_
   refine At.p (some 8) (P_assign rfl rfl) ?_
   refine At.p (some 9) (P_assign rfl rfl) ?_
   refine At.nil ?_
   refine At.next ?_
   refine At.seq ?_
   refine At.region ?_
   refine At.p (some 27) (P_move rfl rfl) ?_
   refine At.p (some 10) (P_assign rfl rfl) ?_
   refine At.nil ?_
   refine At.next ?_
   refine At.seq ?_
   refine At.seq ?_
   refine At.region ?_
   refine At.p (some 28) (P_move rfl rfl) ?_
   refine At.nil ?_
   refine At.next ?_
   refine At.cond rfl (fun h28 => ?_) (fun h28 => ?_)
   · -- cond 28 t
    refine At.seq ?_
    refine At.region ?_
    refine At.p (some 30) (P_move rfl rfl) ?_
    refine At.p (some 31) (P_move rfl rfl) ?_
    refine At.s (S_callV (some 32) [] [] (vs := [_, _]) rfl en129 rfl V0 (by simp) (c_mul _ _) (by rintro _ _ ⟨rfl, rfl⟩; rfl) ?_)
    rintro _ _ ⟨rfl, rfl⟩
    refine At.p (some 29) (P_move rfl rfl) ?_
    refine At.p (some 33) (P_extract rfl rfl rfl) ?_
    refine At.p (some 34) (P_extract rfl rfl rfl) ?_
    refine At.p (some 11) (P_assign rfl rfl) ?_
    refine At.p (some 12) (P_assign rfl rfl) ?_
    refine At.nil ?_
    refine At.next ?_
    refine At.seq ?_
    refine At.region ?_
    refine At.p (some 35) (P_move rfl rfl) ?_
    refine At.p (some 36) (P_move rfl rfl) ?_
    refine At.p (some 37) (P_mul_w UK.u64 rfl rfl rfl) ?_
    refine At.p (some 38) (P_move rfl rfl) ?_
    refine At.p (some 39) (P_add_w UK.u64 rfl rfl rfl) ?_
    refine At.p (some 40) (P_move rfl rfl) ?_
    refine At.p (some 8) (P_assign rfl rfl) ?_
    refine At.p (some 9) (P_assign rfl rfl) ?_
    refine At.nil ?_
    refine At.next ?_
    refine At.region ?_
    refine At.p (some 41) (P_move rfl rfl) ?_
    refine At.p (some 42) (P_shl_w UK.u64 (n := 64) rfl rfl rfl (by first | decide | omega)) ?_
    refine At.p (some 10) (P_assign rfl rfl) ?_
    refine At.nil ?_
    refine At.next ?_
    refine At.seq ?_
    refine At.region ?_
    refine At.p (some 43) (P_move rfl rfl) ?_
    refine At.p (some 44) (P_move rfl rfl) ?_
    refine At.p (some 45) (P_lss_w (n := 64) rfl rfl rfl) ?_
    refine At.p (some 46) (P_move rfl rfl) ?_
    refine At.gsplit (t := 46) (want := false) rfl (fun g1 => ?_) (fun g1 => ?_)
    ·
     refine At.gy (t := 46) rfl g1 rfl rfl ?_
     refine At.p (some 47) (P_move rfl rfl) ?_
     refine At.gy (t := 46) rfl g1 rfl rfl ?_
     refine At.p (some 48) (P_move rfl rfl) ?_
     refine At.gy (t := 46) rfl g1 rfl rfl ?_
     refine At.p (some 49) (P_eql_w (n := 64) rfl rfl rfl) ?_
     refine At.gy (t := 46) rfl g1 rfl rfl ?_
     refine At.p (some 50) (P_move rfl rfl) ?_
     refine At.gsplit (t := 50) (want := true) rfl (fun g2 => ?_) (fun g2 => ?_)
     ·
      refine At.gy (t := 50) rfl g2 rfl rfl ?_
      refine At.p (some 51) (P_move rfl rfl) ?_
      refine At.gy (t := 50) rfl g2 rfl rfl ?_
      refine At.p (some 52) (P_eql_w (n := 64) (b := 0#64) rfl rfl rfl) ?_
      refine At.gy (t := 46) rfl g1 rfl rfl ?_
      refine At.p (some 53) (P_pick_t rfl rfl g2 rfl) ?_
      refine At.p (some 54) (P_pick_f rfl rfl g1 rfl) ?_
      refine At.nil ?_
      refine At.next ?_
      refine At.cond rfl (fun h54 => ?_) (fun h54 => ?_)
      · -- cond 54 t
       have hok : rOk p (rTo p cube k ||| 1#64 <<< (35 - k)) cube = true := by simp_all [rOk, rHigh, rLow, rMost, hnk]
       have hnx : rTo p cube k ||| 1#64 <<< (35 - (k : Int)).toNat = rTo p cube (k + 1) := by rw [rTo, hok, hnk]; rfl
       refine At.region ?_
       refine At.p (some 55) (P_move rfl rfl) ?_
       refine At.p (some 5) (P_assign rfl rfl) ?_
       refine At.nil ?_
       refine At.inb_n ?_
       refine At.next ?_
       refine At.region ?_
       refine At.p (some 15) (P_move rfl rfl) ?_
       refine At.p (some 16) (P_sub_i rfl rfl rfl (by omega)) ?_
       refine At.p (some 6) (P_assign rfl rfl) ?_
       refine At.nil ?_
       refine At.next ?_
       refine At.to [(0, _), (1, _), (5, u64V (rTo p cube (k + 1))), (6, iV (35 - ((k + 1 : Nat) : Int)))] [] (AllL.cons_ (rfl) (AllL.cons_ (rfl) (AllL.cons_ (congrArg (fun z => some (u64V z)) hnx) (AllL.cons_ (congrArg (fun z => some (iV z)) (by omega)) trivial)))) trivial ?_
       exact hKc0 _ _ _ (by omega) ⟨k + 1, rfl, rfl, rfl, by omega⟩
      · -- cond 54 f
       have hok : rOk p (rTo p cube k ||| 1#64 <<< (35 - k)) cube = false := by simp_all [rOk, rHigh, rLow, rMost, hnk]
       have hnx : rTo p cube k = rTo p cube (k + 1) := by rw [rTo, hok]; rfl
       refine At.skip ?_
       refine At.inb_n ?_
       refine At.next ?_
       refine At.region ?_
       refine At.p (some 15) (P_move rfl rfl) ?_
       refine At.p (some 16) (P_sub_i rfl rfl rfl (by omega)) ?_
       refine At.p (some 6) (P_assign rfl rfl) ?_
       refine At.nil ?_
       refine At.next ?_
       refine At.to [(0, _), (1, _), (5, u64V (rTo p cube (k + 1))), (6, iV (35 - ((k + 1 : Nat) : Int)))] [] (AllL.cons_ (rfl) (AllL.cons_ (rfl) (AllL.cons_ (congrArg (fun z => some (u64V z)) hnx) (AllL.cons_ (congrArg (fun z => some (iV z)) (by omega)) trivial)))) trivial ?_
       exact hKc0 _ _ _ (by omega) ⟨k + 1, rfl, rfl, rfl, by omega⟩
     ·
      refine At.gn (some 51) (t := 50) rfl g2 rfl rfl ?_
      refine At.gn (some 52) (t := 50) rfl g2 rfl rfl ?_
      refine At.gy (t := 46) rfl g1 rfl rfl ?_
      refine At.p (some 53) (P_pick_f rfl rfl g2 rfl) ?_
      refine At.p (some 54) (P_pick_f rfl rfl g1 rfl) ?_
      refine At.nil ?_
      refine At.next ?_
      refine At.cond rfl (fun h => absurd (h.symm.trans rfl) (by decide)) (fun _ => ?_)
      have hok : rOk p (rTo p cube k ||| 1#64 <<< (35 - k)) cube = false := by simp_all [rOk, rHigh, rLow, rMost, hnk]
      have hnx : rTo p cube k = rTo p cube (k + 1) := by rw [rTo, hok]; rfl
      refine At.skip ?_
      refine At.inb_n ?_
      refine At.next ?_
      refine At.region ?_
      refine At.p (some 15) (P_move rfl rfl) ?_
      refine At.p (some 16) (P_sub_i rfl rfl rfl (by omega)) ?_
      refine At.p (some 6) (P_assign rfl rfl) ?_
      refine At.nil ?_
      refine At.next ?_
      refine At.to [(0, _), (1, _), (5, u64V (rTo p cube (k + 1))), (6, iV (35 - ((k + 1 : Nat) : Int)))] [] (AllL.cons_ (rfl) (AllL.cons_ (rfl) (AllL.cons_ (congrArg (fun z => some (u64V z)) hnx) (AllL.cons_ (congrArg (fun z => some (iV z)) (by omega)) trivial)))) trivial ?_
      exact hKc0 _ _ _ (by omega) ⟨k + 1, rfl, rfl, rfl, by omega⟩
    ·
     refine At.gn (some 47) (t := 46) rfl g1 rfl rfl ?_
     refine At.gn (some 48) (t := 46) rfl g1 rfl rfl ?_
     refine At.gn (some 49) (t := 46) rfl g1 rfl rfl ?_
     refine At.gn (some 50) (t := 46) rfl g1 rfl rfl ?_
     refine At.gu (some 51) (t := 50) rfl rfl rfl ?_
     refine At.gu (some 52) (t := 50) rfl rfl rfl ?_
     refine At.gn (some 53) (t := 46) rfl g1 rfl rfl ?_
     refine At.p (some 54) (P_pick_t rfl rfl g1 rfl) ?_
     refine At.nil ?_
     refine At.next ?_
     refine At.cond rfl (fun _ => ?_) (fun h => absurd (h.symm.trans rfl) (by decide))
     have hok : rOk p (rTo p cube k ||| 1#64 <<< (35 - k)) cube = true := by simp_all [rOk, rHigh, rLow, rMost, hnk]
     have hnx : rTo p cube k ||| 1#64 <<< (35 - (k : Int)).toNat = rTo p cube (k + 1) := by rw [rTo, hok, hnk]; rfl
     refine At.region ?_
     refine At.p (some 55) (P_move rfl rfl) ?_
     refine At.p (some 5) (P_assign rfl rfl) ?_
     refine At.nil ?_
     refine At.inb_n ?_
     refine At.next ?_
     refine At.region ?_
     refine At.p (some 15) (P_move rfl rfl) ?_
     refine At.p (some 16) (P_sub_i rfl rfl rfl (by omega)) ?_
     refine At.p (some 6) (P_assign rfl rfl) ?_
     refine At.nil ?_
     refine At.next ?_
     refine At.to [(0, _), (1, _), (5, u64V (rTo p cube (k + 1))), (6, iV (35 - ((k + 1 : Nat) : Int)))] [] (AllL.cons_ (rfl) (AllL.cons_ (rfl) (AllL.cons_ (congrArg (fun z => some (u64V z)) hnx) (AllL.cons_ (congrArg (fun z => some (iV z)) (by omega)) trivial)))) trivial ?_
     exact hKc0 _ _ _ (by omega) ⟨k + 1, rfl, rfl, rfl, by omega⟩
   · -- cond 28 f
    refine At.skip ?_
    refine At.next ?_
    refine At.seq ?_
    refine At.region ?_
    refine At.p (some 43) (P_move rfl rfl) ?_
    refine At.p (some 44) (P_move rfl rfl) ?_
    refine At.p (some 45) (P_lss_w (n := 64) rfl rfl rfl) ?_
    refine At.p (some 46) (P_move rfl rfl) ?_
    refine At.gsplit (t := 46) (want := false) rfl (fun g3 => ?_) (fun g3 => ?_)
    ·
     refine At.gy (t := 46) rfl g3 rfl rfl ?_
     refine At.p (some 47) (P_move rfl rfl) ?_
     refine At.gy (t := 46) rfl g3 rfl rfl ?_
     refine At.p (some 48) (P_move rfl rfl) ?_
     refine At.gy (t := 46) rfl g3 rfl rfl ?_
     refine At.p (some 49) (P_eql_w (n := 64) rfl rfl rfl) ?_
     refine At.gy (t := 46) rfl g3 rfl rfl ?_
     refine At.p (some 50) (P_move rfl rfl) ?_
     refine At.gsplit (t := 50) (want := true) rfl (fun g4 => ?_) (fun g4 => ?_)
     ·
      refine At.gy (t := 50) rfl g4 rfl rfl ?_
      refine At.p (some 51) (P_move rfl rfl) ?_
      refine At.gy (t := 50) rfl g4 rfl rfl ?_
      refine At.p (some 52) (P_eql_w (n := 64) (b := 0#64) rfl rfl rfl) ?_
      refine At.gy (t := 46) rfl g3 rfl rfl ?_
      refine At.p (some 53) (P_pick_t rfl rfl g4 rfl) ?_
      refine At.p (some 54) (P_pick_f rfl rfl g3 rfl) ?_
      refine At.nil ?_
      refine At.next ?_
      refine At.cond rfl (fun h54 => ?_) (fun h54 => ?_)
      · -- cond 54 t
       have hok : rOk p (rTo p cube k ||| 1#64 <<< (35 - k)) cube = true := by simp_all [rOk, rHigh, rLow, rMost, hnk]
       have hnx : rTo p cube k ||| 1#64 <<< (35 - (k : Int)).toNat = rTo p cube (k + 1) := by rw [rTo, hok, hnk]; rfl
       refine At.region ?_
       refine At.p (some 55) (P_move rfl rfl) ?_
       refine At.p (some 5) (P_assign rfl rfl) ?_
       refine At.nil ?_
       refine At.inb_n ?_
       refine At.next ?_
       refine At.region ?_
       refine At.p (some 15) (P_move rfl rfl) ?_
       refine At.p (some 16) (P_sub_i rfl rfl rfl (by omega)) ?_
       refine At.p (some 6) (P_assign rfl rfl) ?_
       refine At.nil ?_
       refine At.next ?_
       refine At.to [(0, _), (1, _), (5, u64V (rTo p cube (k + 1))), (6, iV (35 - ((k + 1 : Nat) : Int)))] [] (AllL.cons_ (rfl) (AllL.cons_ (rfl) (AllL.cons_ (congrArg (fun z => some (u64V z)) hnx) (AllL.cons_ (congrArg (fun z => some (iV z)) (by omega)) trivial)))) trivial ?_
       exact hKc0 _ _ _ (by omega) ⟨k + 1, rfl, rfl, rfl, by omega⟩
      · -- cond 54 f
       have hok : rOk p (rTo p cube k ||| 1#64 <<< (35 - k)) cube = false := by simp_all [rOk, rHigh, rLow, rMost, hnk]
       have hnx : rTo p cube k = rTo p cube (k + 1) := by rw [rTo, hok]; rfl
       refine At.skip ?_
       refine At.inb_n ?_
       refine At.next ?_
       refine At.region ?_
       refine At.p (some 15) (P_move rfl rfl) ?_
       refine At.p (some 16) (P_sub_i rfl rfl rfl (by omega)) ?_
       refine At.p (some 6) (P_assign rfl rfl) ?_
       refine At.nil ?_
       refine At.next ?_
       refine At.to [(0, _), (1, _), (5, u64V (rTo p cube (k + 1))), (6, iV (35 - ((k + 1 : Nat) : Int)))] [] (AllL.cons_ (rfl) (AllL.cons_ (rfl) (AllL.cons_ (congrArg (fun z => some (u64V z)) hnx) (AllL.cons_ (congrArg (fun z => some (iV z)) (by omega)) trivial)))) trivial ?_
       exact hKc0 _ _ _ (by omega) ⟨k + 1, rfl, rfl, rfl, by omega⟩
     ·
      refine At.gn (some 51) (t := 50) rfl g4 rfl rfl ?_
      refine At.gn (some 52) (t := 50) rfl g4 rfl rfl ?_
      refine At.gy (t := 46) rfl g3 rfl rfl ?_
      refine At.p (some 53) (P_pick_f rfl rfl g4 rfl) ?_
      refine At.p (some 54) (P_pick_f rfl rfl g3 rfl) ?_
      refine At.nil ?_
      refine At.next ?_
      refine At.cond rfl (fun h => absurd (h.symm.trans rfl) (by decide)) (fun _ => ?_)
      have hok : rOk p (rTo p cube k ||| 1#64 <<< (35 - k)) cube = false := by simp_all [rOk, rHigh, rLow, rMost, hnk]
      have hnx : rTo p cube k = rTo p cube (k + 1) := by rw [rTo, hok]; rfl
      refine At.skip ?_
      refine At.inb_n ?_
      refine At.next ?_
      refine At.region ?_
      refine At.p (some 15) (P_move rfl rfl) ?_
      refine At.p (some 16) (P_sub_i rfl rfl rfl (by omega)) ?_
      refine At.p (some 6) (P_assign rfl rfl) ?_
      refine At.nil ?_
      refine At.next ?_
      refine At.to [(0, _), (1, _), (5, u64V (rTo p cube (k + 1))), (6, iV (35 - ((k + 1 : Nat) : Int)))] [] (AllL.cons_ (rfl) (AllL.cons_ (rfl) (AllL.cons_ (congrArg (fun z => some (u64V z)) hnx) (AllL.cons_ (congrArg (fun z => some (iV z)) (by omega)) trivial)))) trivial ?_
      exact hKc0 _ _ _ (by omega) ⟨k + 1, rfl, rfl, rfl, by omega⟩
    ·
     refine At.gn (some 47) (t := 46) rfl g3 rfl rfl ?_
     refine At.gn (some 48) (t := 46) rfl g3 rfl rfl ?_
     refine At.gn (some 49) (t := 46) rfl g3 rfl rfl ?_
     refine At.gn (some 50) (t := 46) rfl g3 rfl rfl ?_
     refine At.gu (some 51) (t := 50) rfl rfl rfl ?_
     refine At.gu (some 52) (t := 50) rfl rfl rfl ?_
     refine At.gn (some 53) (t := 46) rfl g3 rfl rfl ?_
     refine At.p (some 54) (P_pick_t rfl rfl g3 rfl) ?_
     refine At.nil ?_
     refine At.next ?_
     refine At.cond rfl (fun _ => ?_) (fun h => absurd (h.symm.trans rfl) (by decide))
     have hok : rOk p (rTo p cube k ||| 1#64 <<< (35 - k)) cube = true := by simp_all [rOk, rHigh, rLow, rMost, hnk]
     have hnx : rTo p cube k ||| 1#64 <<< (35 - (k : Int)).toNat = rTo p cube (k + 1) := by rw [rTo, hok, hnk]; rfl
     refine At.region ?_
     refine At.p (some 55) (P_move rfl rfl) ?_
     refine At.p (some 5) (P_assign rfl rfl) ?_
     refine At.nil ?_
     refine At.inb_n ?_
     refine At.next ?_
     refine At.region ?_
     refine At.p (some 15) (P_move rfl rfl) ?_
     refine At.p (some 16) (P_sub_i rfl rfl rfl (by omega)) ?_
     refine At.p (some 6) (P_assign rfl rfl) ?_
     refine At.nil ?_
     refine At.next ?_
     refine At.to [(0, _), (1, _), (5, u64V (rTo p cube (k + 1))), (6, iV (35 - ((k + 1 : Nat) : Int)))] [] (AllL.cons_ (rfl) (AllL.cons_ (rfl) (AllL.cons_ (congrArg (fun z => some (u64V z)) hnx) (AllL.cons_ (congrArg (fun z => some (iV z)) (by omega)) trivial)))) trivial ?_
     exact hKc0 _ _ _ (by omega) ⟨k + 1, rfl, rfl, rfl, by omega⟩
  · -- cond 14 f
   obtain rfl : k = 36 := by simp at h14; omega
   refine At.exit ?_
   refine At.thn_e ?_
   refine At.thn_e ?_
   refine At.inb_hit ?_
   refine At.next ?_
   refine At.seq ?_
   refine At.region ?_
   refine At.p (some 56) (P_move rfl rfl) ?_
   refine At.p (some 57) (P_conv_ww UK.u32 (m := 64) rfl Try.underlying66 Try.underlying104 rfl) ?_
   refine At.p (some 4) (P_assign rfl rfl) ?_
   refine At.nil ?_
   refine At.next ?_
   refine At.ret ?_
   refine At.give (.inl rfl) [] (rows' := []) (vs := [_]) rfl ⟨rfl, trivial⟩ rfl (by simp) (by simp) ⟨rfl, rfl⟩

theorem c_roots (n : Nat) (cube : Bool) (hn : n ≤ 64) :
  Con Try.prog 57 [iV (n : Int), .bool cube] [] (fun v rs => ∃ A b c, (0 < c → A = some ⟨b, 0, none⟩) ∧ n ≤ c ∧ v = .slice A n c ∧ rs = [⟨true, b, 0, 104, (rootsN n cube).map u32V, c - n⟩]) := by
 refine Con.enter Try.func57 Try.ntmps57 (Nat.le_of_ble_eq_true rfl) rfl fun w => ?_
 refine At.seq ?_
 refine At.region ?_
 refine At.p (some 4) (P_assign rfl rfl) ?_
 refine At.nil ?_
 refine At.next ?_
 refine At.seq ?_
 refine At.region ?_
 refine At.p (some 5) (P_assign rfl rfl) ?_
 refine At.nil ?_
 refine At.next ?_
 refine At.seq ?_
 refine At.seq ?_
 refine At.region ?_
 refine At.p (some 8) (P_move rfl rfl) ?_
 refine At.empty 5 0 104 ?_
 refine At.s (S_callV (some 9) [] [9] (vs := [_]) rfl en104 rfl V0 (by simp) (c_primes n hn) (by rintro _ _ ⟨A9, b9, c9, g9a, g9b, rfl, rfl⟩; rfl) ?_)
 rintro _ _ ⟨A9, b9, c9, g9a, g9b, rfl, rfl⟩
 refine At.p (some 10) (P_len_sl rfl rfl ⟨_, Try.underlying147⟩ rfl) ?_
 refine At.p (some 11) (P_move rfl rfl) ?_
 refine At.nil ?_
 refine At.next ?_
 refine At.block ?_
 refine At.loopx (I := fun m fr H => ∃ (i b5 c5 : Nat) (A5 : Option Addr), m = n - i ∧ fr = frOf [(1, .bool cube), (5, .slice A5 (rtk n cube i).length c5), (9, .slice A9 n c9), (10, iV (n : Int)), (11, iV (i : Int))] ∧ H = hOf [(5, ⟨true, b5, 0, 104, (rtk n cube i).map u32V, c5 - (rtk n cube i).length⟩), (9, ⟨true, b9, 0, 66, (primesN n).map u64V, c9 - n⟩)] ∧ i ≤ n ∧ (0 < c5 → A5 = some ⟨b5, 0, none⟩) ∧ (rtk n cube i).length ≤ c5) ?_ ?_
 ·
  intro Kc0 hKc0
  refine At.to [(1, _), (5, _), (9, _), (10, _), (11, _)] [(5, ⟨true, 0, 0, 104, (rtk n cube 0).map u32V, 0 - (rtk n cube 0).length⟩), (9, _)] (AllL.cons_ (rfl) (AllL.cons_ (rfl) (AllL.cons_ (rfl) (AllL.cons_ (rfl) (AllL.cons_ (rfl) trivial))))) (AllL.cons_ (rfl) (AllL.cons_ (rfl) trivial)) ?_
  exact hKc0 _ _ _ ⟨0, 0, 0, none, rfl, rfl, rfl, by omega, fun h => absurd h (by decide), by simp [rtk]⟩
 ·
  rintro m fr H ⟨i, b5, c5, A5, rfl, rfl, rfl, hi, hA5, hc5⟩ Kc0 hKc0
  refine At.seq ?_
  refine At.region ?_
  refine At.p (some 12) (P_cmp rfl rfl rfl rfl rfl rfl) ?_
  refine At.nil ?_
  refine At.next ?_
  refine At.seq ?_
  refine At.cond rfl (fun h12 => ?_) (fun h12 => ?_)
  · -- cond 12 t
   have hlt : i < n := by simp at h12; omega
   have hrl := rtk_len cube hn hi
   refine At.skip ?_
   refine At.next ?_
   refine At.seq ?_
   refine At.block ?_
   refine At.seq ?_
   refine At.region ?_
   refine At.p (some 13) (P_indexAddr_sl1 rfl Try.underlying147 sz66 rfl (g9a (by omega)) rfl rfl (by omega)) ?_
   refine At.q (some 14) (Q_loadR (l := primesN n) (k := 9) (j := i) (0#64) rfl rfl Try.underlying66 rfl rfl rfl (by rw [primesN_len hn]; exact hlt)) ?_
   refine At.p (some 7) (P_assign rfl rfl) ?_
   refine At.nil ?_
   refine At.next ?_
   refine At.region ?_
   refine At.p (some 15) (P_move rfl rfl) ?_
   refine At.p (some 16) (P_move rfl rfl) ?_
   refine At.p (some 17) (P_move rfl rfl) ?_
   refine At.s (S_callV (some 18) [] [] (vs := [_, _]) rfl en105 rfl V0 (by simp) (c_root _ _) (by rintro _ _ ⟨rfl, rfl⟩; rfl) ?_)
   rintro _ _ ⟨rfl, rfl⟩
   refine At.s (S_buildSliceV (some 19) 19 ([rootS cube ((primesN n).getD i 0#64)].map u32V) rfl Try.underlying106 sz104 ze104 rfl rfl (by decide) (by decide) rfl rfl (fun b19 => ?_))
   refine At.s (S_appendM (some 20) 5 (rtk n cube (i + 1)) (f := u32V) (l := rtk n cube i) (L := [rootS cube ((primesN n).getD i 0#64)]) rfl Try.underlying106 Try.underlying106 (.inr ⟨_, rfl⟩) sz104 by104 ze104 rfl rfl (fun h => ⟨hA5 h, rfl⟩) rfl (by omega) (Src.row (k := 19) (j := 0) rfl (fun _ => rfl) (fun _ => ⟨rfl, rfl, rfl⟩) rfl rfl) (fun _ => rfl) (by omega) (by omega) (rtk_succ cube hn hlt) rfl ?_)
   intro A5 b5 c5 g1 g2
   refine At.p (some 5) (P_assign rfl rfl) ?_
   refine At.nil ?_
   refine At.inb_n ?_
   refine At.next ?_
   refine At.region ?_
   refine At.p (some 21) (P_add_i rfl rfl rfl (by omega)) ?_
   refine At.p (some 11) (P_move rfl rfl) ?_
   refine At.nil ?_
   refine At.next ?_
   refine At.to [(1, _), (5, _), (9, _), (10, _), (11, _)] [(5, _), (9, _)] (AllL.cons_ (rfl) (AllL.cons_ (rfl) (AllL.cons_ (rfl) (AllL.cons_ (rfl) (AllL.cons_ (rfl) trivial))))) (AllL.cons_ (rfl) (AllL.cons_ (rfl) trivial)) ?_
   exact hKc0 _ _ _ (by omega) ⟨i + 1, _, _, _, rfl, rfl, rfl, by omega, g1, g2⟩
  · -- cond 12 f
   obtain rfl : i = n := by simp at h12; omega
   refine At.exit ?_
   refine At.thn_e ?_
   refine At.thn_e ?_
   refine At.inb_hit ?_
   refine At.next ?_
   refine At.seq ?_
   refine At.region ?_
   refine At.p (some 22) (P_move rfl rfl) ?_
   refine At.p (some 4) (P_assign rfl rfl) ?_
   refine At.nil ?_
   refine At.next ?_
   refine At.ret ?_
   refine At.give (.inl rfl) [5] (rows' := [_]) (vs := [_]) rfl ⟨rfl, trivial⟩ rfl (by simp) (by simp) ⟨A5, b5, c5, hA5, by rw [rtk_len cube hn hi] at hc5; exact hc5, by rw [rtk_len cube hn hi]; rfl, by rw [rtk_len cube hn hi, rtk_fin cube hn]⟩

theorem c_spread (A : Option Addr) (b : List (BitVec 8)) (ca bq q : Nat) (h64 : 64 ≤ b.length) (hA : 0 < b.length → A = some ⟨bq, q, none⟩) (hca : b.length ≤ ca) :
  Con Try.prog 106 [.slice A b.length ca] [pRow bq q b] (fun v rs => v = agg32 (spreadS b) ∧ rs = []) := by
 refine Con.enter Try.func106 Try.ntmps106 (Nat.le_of_ble_eq_true rfl) rfl fun w => ?_
 refine At.seq ?_
 refine At.region ?_
 refine At.s (S_alloc (some 2) 2 (zs := (List.replicate 64 0#32).map u32V) rfl ze150 rfl (fun b2 => ?_))
 refine At.nil ?_
 refine At.next ?_
 refine At.seq ?_
 refine At.region ?_
 refine At.s (S_alloc (some 3) 3 (zs := (wTo b 0).map u32V) rfl ze150 rfl (fun b3 => ?_))
 refine At.nil ?_
 refine At.next ?_
 refine At.seq ?_
 refine At.seq ?_
 refine At.region ?_
 refine At.p (some 9) (P_move rfl rfl) ?_
 refine At.p (some 10) (P_slice_sl (h := 64) rfl Try.underlying23 sz5 rfl rfl ⟨_, _, rfl, rfl⟩ rfl (by omega) (by omega) (by omega)) ?_
 refine At.p (some 11) (P_len_sl rfl rfl ⟨_, Try.underlying23⟩ rfl) ?_
 refine At.p (some 12) (P_move rfl rfl) ?_
 refine At.nil ?_
 refine At.next ?_
 refine At.block ?_
 refine At.loopx (I := fun m fr H => ∃ i, m = 64 - i ∧ fr = frOf [(2, ptr b2 0), (3, ptr b3 0), (10, .slice (cut A 0 ca 1) 64 ca), (11, iV (64 : Int)), (12, iV (i : Int))] ∧ H = hOf [(0, pRow bq q b), (2, ⟨true, b2, 0, 150, (List.replicate 64 0#32).map u32V, 0⟩), (3, ⟨true, b3, 0, 150, (wTo b i).map u32V, 0⟩)] ∧ i ≤ 64) ?_ ?_
 ·
  intro Kc0 hKc0
  refine At.to [(2, _), (3, _), (10, _), (11, _), (12, _)] [(0, _), (2, _), (3, ⟨true, b3, 0, 150, (wTo b 0).map u32V, 0⟩)] (AllL.cons_ (rfl) (AllL.cons_ (rfl) (AllL.cons_ (rfl) (AllL.cons_ (rfl) (AllL.cons_ (rfl) trivial))))) (AllL.cons_ (rfl) (AllL.cons_ (rfl) (AllL.cons_ (rfl) trivial))) ?_
  exact hKc0 _ _ _ ⟨0, rfl, rfl, rfl, by omega⟩
 ·
  rintro m fr H ⟨i, rfl, rfl, rfl, hi⟩ Kc0 hKc0
  refine At.seq ?_
  refine At.region ?_
  refine At.p (some 13) (P_cmp rfl rfl rfl rfl rfl rfl) ?_
  refine At.nil ?_
  refine At.next ?_
  refine At.seq ?_
  refine At.cond rfl (fun h13 => ?_) (fun h13 => ?_)
  · -- cond 13 t
   have hlt : i < 64 := by simp at h13; omega
   have hwl := wTo_len b i
   refine At.skip ?_
   refine At.next ?_
   refine At.seq ?_
   refine At.block ?_
   refine At.seq ?_
   refine At.region ?_
   refine At.p (some 14) (P_move rfl rfl) ?_
   refine At.p (some 15) (P_indexAddr_sl1 rfl Try.underlying23 sz5 rfl (cut_zero (hA (by omega))) rfl rfl (by omega)) ?_
   refine At.q (some 16) (Q_loadR (l := b) (k := 0) (j := i) (0#8) rfl rfl Try.underlying5 rfl rfl rfl (by omega)) ?_
   refine At.p (some 4) (P_assign rfl rfl) ?_
   refine At.p (some 5) (P_assign rfl rfl) ?_
   refine At.nil ?_
   refine At.next ?_
   refine At.region ?_
   refine At.p (some 17) (P_move rfl rfl) ?_
   refine At.p (some 18) (P_quo_i rfl rfl rfl (by omega) (by omega) (by first | decide | omega)) ?_
   refine At.p (some 19) (P_move rfl rfl) ?_
   refine At.p (some 20) (P_quo_i rfl rfl rfl (by omega) (by omega) (by first | decide | omega)) ?_
   refine At.p (some 21) (P_indexAddr_arr1 (j := i / 4) rfl Try.underlying150 sz104 rfl rfl (by omega) (by omega)) ?_
   refine At.q (some 22) (Q_loadM (k := 3) (0#32) rfl rfl Try.underlying104 rfl rfl WD) ?_
   refine At.p (some 23) (P_shl_w UK.u32 (n := 32) rfl rfl rfl (by first | decide | omega)) ?_
   refine At.p (some 24) (P_move rfl rfl) ?_
   refine At.p (some 25) (P_conv_ww UK.u32 (m := 8) rfl Try.underlying5 Try.underlying104 rfl) ?_
   refine At.p (some 26) (P_or_w UK.u32 rfl rfl rfl) ?_
   refine At.p (some 27) (P_indexAddr_arr1 (j := i / 4) rfl Try.underlying150 sz104 rfl rfl (by omega) (by omega)) ?_
   refine At.s (S_storeM none (f := u32V) (k := 3) rfl rfl rfl sz104 rfl rfl rfl WD ?_)
   refine At.nil ?_
   refine At.inb_n ?_
   refine At.next ?_
   refine At.region ?_
   refine At.p (some 28) (P_add_i rfl rfl rfl (by omega)) ?_
   refine At.p (some 12) (P_move rfl rfl) ?_
   refine At.nil ?_
   refine At.next ?_
   refine At.to [(2, _), (3, _), (10, _), (11, _), (12, _)] [(0, _), (2, _), (3, ⟨true, b3, 0, 150, (wTo b (i + 1)).map u32V, 0⟩)] (AllL.cons_ (rfl) (AllL.cons_ (rfl) (AllL.cons_ (rfl) (AllL.cons_ (rfl) (AllL.cons_ (rfl) trivial))))) (AllL.cons_ (rfl) (AllL.cons_ (rfl) (AllL.cons_ (rfl) trivial))) ?_
   exact hKc0 _ _ _ (by omega) ⟨i + 1, rfl, rfl, rfl, by omega⟩
  · -- cond 13 f
   obtain rfl : i = 64 := by simp at h13; omega
   refine At.exit ?_
   refine At.thn_e ?_
   refine At.thn_e ?_
   refine At.inb_hit ?_
   refine At.next ?_
   refine At.seq ?_
   refine At.seq ?_
   refine At.region ?_
   refine At.p (some 6) (P_assign rfl rfl) ?_
   refine At.nil ?_
   refine At.next ?_
   refine At.block ?_
   refine At.loopx (I := fun m fr H => ∃ k, m = 48 - k ∧ fr = frOf [(2, ptr b2 0), (3, ptr b3 0), (6, iV ((16 + k : Nat) : Int))] ∧ H = hOf [(2, ⟨true, b2, 0, 150, (List.replicate 64 0#32).map u32V, 0⟩), (3, ⟨true, b3, 0, 150, (sTo b k).map u32V, 0⟩)] ∧ k ≤ 48) ?_ ?_
   ·
    intro Kc1 hKc1
    refine At.to [(2, _), (3, _), (6, _)] [(2, _), (3, ⟨true, b3, 0, 150, (sTo b 0).map u32V, 0⟩)] (AllL.cons_ (rfl) (AllL.cons_ (rfl) (AllL.cons_ (rfl) trivial))) (AllL.cons_ (rfl) (AllL.cons_ (rfl) trivial)) ?_
    exact hKc1 _ _ _ ⟨0, rfl, rfl, rfl, by omega⟩
   ·
    rintro m fr H ⟨k, rfl, rfl, rfl, hk⟩ Kc1 hKc1
    refine At.seq ?_
    refine At.seq ?_
    refine At.region ?_
    refine At.p (some 29) (P_move rfl rfl) ?_
    refine At.p (some 30) (P_cmp rfl rfl rfl rfl rfl rfl) ?_
    refine At.nil ?_
    refine At.next ?_
    refine At.cond rfl (fun h30 => ?_) (fun h30 => ?_)
    · -- cond 30 t
     have hlt : k < 48 := by simp at h30; omega
     have hsl := sTo_len b k
     refine At.skip ?_
     refine At.next ?_
     refine At.seq ?_
     refine At.block ?_
     refine At.seq ?_
     refine At.draws 9 [] [.q false [0, 1, 2, 3, 4, 5, 6, 7, 8]] (by kernel_rfl) (by kernel_rfl) ?_
     refine At.wp (some 33) (P_move rfl rfl) ?_
     refine At.wp (some 34) (P_sub_i rfl rfl rfl (by omega)) ?_
     refine At.wp (some 35) (P_indexAddr_arr1 (j := 16 + k - 15) rfl Try.underlying150 sz104 rfl rfl (by omega) (by omega)) ?_
     refine At.wq (some 36) (Q_loadM (k := 3) (0#32) rfl rfl Try.underlying104 rfl rfl WD) ?_
     refine At.wp (some 37) (P_move rfl rfl) ?_
     refine At.wp (some 38) (P_sub_i rfl rfl rfl (by omega)) ?_
     refine At.wp (some 39) (P_indexAddr_arr1 (j := 16 + k - 2) rfl Try.underlying150 sz104 rfl rfl (by omega) (by omega)) ?_
     refine At.wq (some 40) (Q_loadM (k := 3) (0#32) rfl rfl Try.underlying104 rfl rfl WD) ?_
     refine At.wp (some 7) (P_assign rfl rfl) ?_
     refine At.wqn ?_
     refine At.wt rfl ?_
     refine At.p (some 8) (P_assign rfl rfl) ?_
     refine At.nil ?_
     refine At.next ?_
     refine At.draws 28 [] [.q false [0, 1, 2, 3, 4, 5, 6, 7, 8, 9, 10, 11, 12, 13, 14, 15, 16, 17, 18, 19, 20, 21, 22, 23, 24, 25, 26, 27]] (by kernel_rfl) (by kernel_rfl) ?_
     refine At.wp (some 41) (P_move rfl rfl) ?_
     refine At.wp (some 42) (P_move rfl rfl) ?_
     refine At.wp (some 43) (P_sub_i rfl rfl rfl (by omega)) ?_
     refine At.wp (some 44) (P_indexAddr_arr1 (j := 16 + k - 16) rfl Try.underlying150 sz104 rfl rfl (by omega) (by omega)) ?_
     refine At.wq (some 45) (Q_loadM (k := 3) (0#32) rfl rfl Try.underlying104 rfl rfl WD) ?_
     refine At.wp (some 46) (P_move rfl rfl) ?_
     refine At.wp (some 47) (P_sub_i rfl rfl rfl (by omega)) ?_
     refine At.wp (some 48) (P_indexAddr_arr1 (j := 16 + k - 7) rfl Try.underlying150 sz104 rfl rfl (by omega) (by omega)) ?_
     refine At.wq (some 49) (Q_loadM (k := 3) (0#32) rfl rfl Try.underlying104 rfl rfl WD) ?_
     refine At.wp (some 50) (P_add_w UK.u32 rfl rfl rfl) ?_
     refine At.wp (some 51) (P_move rfl rfl) ?_
     refine At.wcV (some 52) [] (vs := [_, _]) rfl en107 rfl V0 (c_right _ 7 (by decide) (by decide)) ?_
     refine At.wp (some 53) (P_move rfl rfl) ?_
     refine At.wcV (some 54) [] (vs := [_, _]) rfl en107 rfl V0 (c_right _ 18 (by decide) (by decide)) ?_
     refine At.wp (some 55) (P_xor_w UK.u32 rfl rfl rfl) ?_
     refine At.wp (some 56) (P_move rfl rfl) ?_
     refine At.wp (some 57) (P_shr_w UK.u32 (n := 32) rfl rfl rfl (by first | decide | omega)) ?_
     refine At.wp (some 58) (P_xor_w UK.u32 rfl rfl rfl) ?_
     refine At.wp (some 59) (P_add_w UK.u32 rfl rfl rfl) ?_
     refine At.wp (some 60) (P_move rfl rfl) ?_
     refine At.wcV (some 61) [] (vs := [_, _]) rfl en107 rfl V0 (c_right _ 17 (by decide) (by decide)) ?_
     refine At.wp (some 62) (P_move rfl rfl) ?_
     refine At.wcV (some 63) [] (vs := [_, _]) rfl en107 rfl V0 (c_right _ 19 (by decide) (by decide)) ?_
     refine At.wp (some 64) (P_xor_w UK.u32 rfl rfl rfl) ?_
     refine At.wp (some 65) (P_move rfl rfl) ?_
     refine At.wp (some 66) (P_shr_w UK.u32 (n := 32) rfl rfl rfl (by first | decide | omega)) ?_
     refine At.wp (some 67) (P_xor_w UK.u32 rfl rfl rfl) ?_
     refine At.wp (some 68) (P_add_w UK.u32 rfl rfl rfl) ?_
     refine At.wqn ?_
     refine At.wt rfl ?_
     refine At.p (some 69) (P_indexAddr_arr1 (j := 16 + k) rfl Try.underlying150 sz104 rfl rfl (by omega) (by omega)) ?_
     refine At.s (S_storeM none (f := u32V) (k := 3) rfl rfl rfl sz104 rfl rfl rfl WD ?_)
     refine At.nil ?_
     refine At.inb_n ?_
     refine At.next ?_
     refine At.region ?_
     refine At.p (some 31) (P_move rfl rfl) ?_
     refine At.p (some 32) (P_add_i rfl rfl rfl (by omega)) ?_
     refine At.p (some 6) (P_assign rfl rfl) ?_
     refine At.nil ?_
     refine At.next ?_
     refine At.to [(2, _), (3, _), (6, iV ((16 + (k + 1) : Nat) : Int))] [(2, _), (3, ⟨true, b3, 0, 150, (sTo b (k + 1)).map u32V, 0⟩)] (AllL.cons_ (rfl) (AllL.cons_ (rfl) (AllL.cons_ (congrArg (fun z => some (iV z)) (by omega)) trivial))) (AllL.cons_ (rfl) (AllL.cons_ (rfl) trivial)) ?_
     exact hKc1 _ _ _ (by omega) ⟨k + 1, rfl, rfl, rfl, by omega⟩
    · -- cond 30 f
     obtain rfl : k = 48 := by simp at h30; omega
     have hsl := sTo_len b 48
     refine At.exit ?_
     refine At.thn_e ?_
     refine At.thn_e ?_
     refine At.inb_hit ?_
     refine At.next ?_
     refine At.seq ?_
     refine At.region ?_
     refine At.q (some 70) (Q_loadA (k := 3) rfl rfl Try.underlying150 rfl sz150 WD rfl) ?_
     refine At.s (S_storeA none (k := 2) (vs := _) rfl rfl rfl (by first | (rw [sz150]; simp <;> omega) | exact sz150) rfl WA WB rfl WC ?_)
     refine At.nil ?_
     refine At.next ?_
     refine At.ret ?_
     refine At.giveV (.inl rfl) [] (rows' := []) (ResV.cellA (k := 2) rfl rfl Try.underlying150 rfl sz150 (by first | (simp <;> omega) | rfl | (simp [*]; done)) rfl) rfl (by simp) (by simp) ?_
     exact ⟨rfl, rfl⟩

theorem c_mix (s : List (BitVec 32)) (A A2 : Option Addr) (b : List (BitVec 8)) (ca bq q ck bk qk : Nat) (hs : s.length = 8) (h64 : 64 ≤ b.length) (hA : 0 < b.length → A = some ⟨bq, q, none⟩) (hca : b.length ≤ ca) (hA2 : A2 = some ⟨bk, qk, none⟩) (hck : 64 ≤ ck) :
  Con Try.prog 59 [agg32 s, .slice A b.length ca, .slice A2 64 ck] [pRow bq q b, w32 bk qk KK] (fun v rs => v = agg32 (mixB s b) ∧ rs = []) := by
 refine Con.enter Try.func59 Try.ntmps59 (Nat.le_of_ble_eq_true rfl) rfl fun w => ?_
 refine At.seq ?_
 have hKK : KK.length = 64 := rfl
 have hsp : (spreadS b).length = 64 := sTo_len b 48
 refine At.region ?_
 refine At.s (S_box (some 3) 3 (zs := s.map u32V) rfl rfl rfl (fun b3 => ?_))
 refine At.s (S_alloc (some 6) 6 (zs := (List.replicate 8 0#32).map u32V) rfl ze105 rfl (fun b6 => ?_))
 refine At.nil ?_
 refine At.next ?_
 refine At.seq ?_
 refine At.region ?_
 refine At.q (some 16) (Q_loadA (k := 3) rfl rfl Try.underlying105 rfl sz105 WD rfl) ?_
 refine At.s (S_alloc (some 7) 7 (zs := (List.replicate 8 0#32).map u32V) rfl ze105 rfl (fun b7 => ?_))
 refine At.s (S_storeA none (k := 7) (vs := _) rfl rfl rfl (by first | (rw [sz105]; simp <;> omega) | exact sz105) rfl WA WB rfl WC ?_)
 refine At.nil ?_
 refine At.next ?_
 refine At.seq ?_
 refine At.seq ?_
 refine At.region ?_
 refine At.p (some 17) (P_move rfl rfl) ?_
 refine At.s (S_callV (some 18) [(0, _)] [] (vs := [_]) rfl en106 rfl (VN (by simp) rfl View.all V0) (by simp) (c_spread A b ca bq q h64 hA hca) (by rintro _ _ ⟨rfl, rfl⟩; rfl) ?_)
 rintro _ _ ⟨rfl, rfl⟩
 refine At.p (some 19) (P_move rfl rfl) ?_
 refine At.nil ?_
 refine At.next ?_
 refine At.block ?_
 refine At.loopx (I := fun m fr H => ∃ i, m = 64 - i ∧ fr = frOf [(3, ptr b3 0), (6, ptr b6 0), (2, .slice A2 64 ck), (7, ptr b7 0), (18, agg32 (spreadS b)), (19, iV (i : Int))] ∧ H = hOf [(1, w32 bk qk KK), (3, ⟨true, b3, 0, 105, s.map u32V, 0⟩), (6, ⟨true, b6, 0, 105, (List.replicate 8 0#32).map u32V, 0⟩), (7, ⟨true, b7, 0, 105, (vTo KK (spreadS b) s i).map u32V, 0⟩)] ∧ i ≤ 64) ?_ ?_
 ·
  intro Kc0 hKc0
  refine At.to [(3, _), (6, _), (2, _), (7, _), (18, _), (19, _)] [(1, _), (3, _), (6, _), (7, ⟨true, b7, 0, 105, (vTo KK (spreadS b) s 0).map u32V, 0⟩)] (AllL.cons_ (rfl) (AllL.cons_ (rfl) (AllL.cons_ (rfl) (AllL.cons_ (rfl) (AllL.cons_ (rfl) (AllL.cons_ (rfl) trivial)))))) (AllL.cons_ (rfl) (AllL.cons_ (rfl) (AllL.cons_ (rfl) (AllL.cons_ (rfl) trivial)))) ?_
  exact hKc0 _ _ _ ⟨0, rfl, rfl, rfl, by omega⟩
 ·
  rintro m fr H ⟨i, rfl, rfl, rfl, hi⟩ Kc0 hKc0
  refine At.seq ?_
  refine At.region ?_
  refine At.p (some 20) (P_cmp rfl rfl rfl rfl rfl rfl) ?_
  refine At.nil ?_
  refine At.next ?_
  refine At.seq ?_
  refine At.cond rfl (fun h20 => ?_) (fun h20 => ?_)
  · -- cond 20 t
   have hlt : i < 64 := by simp at h20; omega
   have hvl : (vTo KK (spreadS b) s i).length = 8 := vTo_len hs i
   have hsl7 := splice_len7 hvl
   refine At.skip ?_
   refine At.next ?_
   refine At.seq ?_
   refine At.block ?_
   refine At.seq ?_
   refine At.region ?_
   refine At.p (some 21) (P_move rfl rfl) ?_
   refine At.p (some 22) (P_indexM (0#32) rfl Try.underlying150 sz104 Try.underlying104 rfl rfl rfl (by omega) WD) ?_
   refine At.p (some 8) (P_assign rfl rfl) ?_
   refine At.p (some 9) (P_assign rfl rfl) ?_
   refine At.nil ?_
   refine At.next ?_
   refine At.seq ?_
   refine At.draws 5 [] [.q false [0, 1, 2, 3, 4]] (by kernel_rfl) (by kernel_rfl) ?_
   refine At.wp (some 23) (P_indexAddr_arr1 (j := 4) rfl Try.underlying105 sz104 rfl rfl rfl (by decide)) ?_
   refine At.wq (some 24) (Q_loadM (k := 7) (0#32) rfl rfl Try.underlying104 rfl rfl WD) ?_
   refine At.wp (some 25) (P_indexAddr_arr1 (j := 0) rfl Try.underlying105 sz104 rfl rfl rfl (by decide)) ?_
   refine At.wq (some 26) (Q_loadM (k := 7) (0#32) rfl rfl Try.underlying104 rfl rfl WD) ?_
   refine At.wp (some 10) (P_assign rfl rfl) ?_
   refine At.wqn ?_
   refine At.wt rfl ?_
   refine At.p (some 11) (P_assign rfl rfl) ?_
   refine At.nil ?_
   refine At.next ?_
   refine At.seq ?_
   refine At.draws 28 [] [.q false [0, 1, 2, 3, 4, 5, 6, 7, 8, 9, 10, 11, 12, 13, 14, 15, 16, 17, 18, 19, 20, 21, 22, 23, 24, 25, 26, 27]] (by kernel_rfl) (by kernel_rfl) ?_
   refine At.wp (some 27) (P_indexAddr_arr1 (j := 7) rfl Try.underlying105 sz104 rfl rfl rfl (by decide)) ?_
   refine At.wq (some 28) (Q_loadM (k := 7) (0#32) rfl rfl Try.underlying104 rfl rfl WD) ?_
   refine At.wp (some 29) (P_move rfl rfl) ?_
   refine At.wcV (some 30) [] (vs := [_, _]) rfl en107 rfl V0 (c_right _ 6 (by decide) (by decide)) ?_
   refine At.wp (some 31) (P_move rfl rfl) ?_
   refine At.wcV (some 32) [] (vs := [_, _]) rfl en107 rfl V0 (c_right _ 11 (by decide) (by decide)) ?_
   refine At.wp (some 33) (P_xor_w UK.u32 rfl rfl rfl) ?_
   refine At.wp (some 34) (P_move rfl rfl) ?_
   refine At.wcV (some 35) [] (vs := [_, _]) rfl en107 rfl V0 (c_right _ 25 (by decide) (by decide)) ?_
   refine At.wp (some 36) (P_xor_w UK.u32 rfl rfl rfl) ?_
   refine At.wp (some 37) (P_add_w UK.u32 rfl rfl rfl) ?_
   refine At.wp (some 38) (P_move rfl rfl) ?_
   refine At.wp (some 39) (P_indexAddr_arr1 (j := 5) rfl Try.underlying105 sz104 rfl rfl rfl (by decide)) ?_
   refine At.wq (some 40) (Q_loadM (k := 7) (0#32) rfl rfl Try.underlying104 rfl rfl WD) ?_
   refine At.wp (some 41) (P_and_w UK.u32 rfl rfl rfl) ?_
   refine At.wp (some 42) (P_move rfl rfl) ?_
   refine At.wp (some 43) (P_compl_w UK.u32 rfl rfl) ?_
   refine At.wp (some 44) (P_indexAddr_arr1 (j := 6) rfl Try.underlying105 sz104 rfl rfl rfl (by decide)) ?_
   refine At.wq (some 45) (Q_loadM (k := 7) (0#32) rfl rfl Try.underlying104 rfl rfl WD) ?_
   refine At.wp (some 46) (P_and_w UK.u32 rfl rfl rfl) ?_
   refine At.wp (some 47) (P_or_w UK.u32 rfl rfl rfl) ?_
   refine At.wp (some 48) (P_add_w UK.u32 rfl rfl rfl) ?_
   refine At.wp (some 49) (P_move rfl rfl) ?_
   refine At.wp (some 50) (P_move rfl rfl) ?_
   refine At.wp (some 51) (P_indexAddr_sl1 rfl Try.underlying106 sz104 rfl hA2 rfl rfl (by omega)) ?_
   refine At.wq (some 52) (Q_loadR (l := KK) (k := 1) (j := i) (0#32) rfl rfl Try.underlying104 rfl rfl rfl (by omega)) ?_
   refine At.wp (some 53) (P_add_w UK.u32 rfl rfl rfl) ?_
   refine At.wp (some 54) (P_move rfl rfl) ?_
   refine At.wqn ?_
   refine At.wt rfl ?_
   refine At.p (some 55) (P_add_w UK.u32 rfl rfl rfl) ?_
   refine At.p (some 12) (P_assign rfl rfl) ?_
   refine At.nil ?_
   refine At.next ?_
   refine At.seq ?_
   refine At.draws 23 [] [.q false [0, 1, 2, 3, 4, 5, 6, 7, 8, 9, 10, 11, 12, 13, 14, 15, 16, 17, 18, 19, 20, 21, 22]] (by kernel_rfl) (by kernel_rfl) ?_
   refine At.wp (some 56) (P_move rfl rfl) ?_
   refine At.wcV (some 57) [] (vs := [_, _]) rfl en107 rfl V0 (c_right _ 2 (by decide) (by decide)) ?_
   refine At.wp (some 58) (P_move rfl rfl) ?_
   refine At.wcV (some 59) [] (vs := [_, _]) rfl en107 rfl V0 (c_right _ 13 (by decide) (by decide)) ?_
   refine At.wp (some 60) (P_xor_w UK.u32 rfl rfl rfl) ?_
   refine At.wp (some 61) (P_move rfl rfl) ?_
   refine At.wcV (some 62) [] (vs := [_, _]) rfl en107 rfl V0 (c_right _ 22 (by decide) (by decide)) ?_
   refine At.wp (some 63) (P_xor_w UK.u32 rfl rfl rfl) ?_
   refine At.wp (some 64) (P_move rfl rfl) ?_
   refine At.wp (some 65) (P_indexAddr_arr1 (j := 1) rfl Try.underlying105 sz104 rfl rfl rfl (by decide)) ?_
   refine At.wq (some 66) (Q_loadM (k := 7) (0#32) rfl rfl Try.underlying104 rfl rfl WD) ?_
   refine At.wp (some 67) (P_and_w UK.u32 rfl rfl rfl) ?_
   refine At.wp (some 68) (P_move rfl rfl) ?_
   refine At.wp (some 69) (P_indexAddr_arr1 (j := 2) rfl Try.underlying105 sz104 rfl rfl rfl (by decide)) ?_
   refine At.wq (some 70) (Q_loadM (k := 7) (0#32) rfl rfl Try.underlying104 rfl rfl WD) ?_
   refine At.wp (some 71) (P_and_w UK.u32 rfl rfl rfl) ?_
   refine At.wp (some 72) (P_or_w UK.u32 rfl rfl rfl) ?_
   refine At.wp (some 73) (P_indexAddr_arr1 (j := 1) rfl Try.underlying105 sz104 rfl rfl rfl (by decide)) ?_
   refine At.wq (some 74) (Q_loadM (k := 7) (0#32) rfl rfl Try.underlying104 rfl rfl WD) ?_
   refine At.wp (some 75) (P_indexAddr_arr1 (j := 2) rfl Try.underlying105 sz104 rfl rfl rfl (by decide)) ?_
   refine At.wq (some 76) (Q_loadM (k := 7) (0#32) rfl rfl Try.underlying104 rfl rfl WD) ?_
   refine At.wp (some 77) (P_and_w UK.u32 rfl rfl rfl) ?_
   refine At.wp (some 78) (P_or_w UK.u32 rfl rfl rfl) ?_
   refine At.wqn ?_
   refine At.wt rfl ?_
   refine At.p (some 79) (P_add_w UK.u32 rfl rfl rfl) ?_
   refine At.p (some 13) (P_assign rfl rfl) ?_
   refine At.nil ?_
   refine At.next ?_
   refine At.seq ?_
   refine At.draws 2 [] [.q false [0, 1]] (by kernel_rfl) (by kernel_rfl) ?_
   refine At.wp (some 80) (P_slice_arr1 (l := 1) rfl Try.underlying105 sz104 rfl ⟨_, _, rfl, rfl⟩ rfl rfl (by omega) (by omega) (by omega) (by omega)) ?_
   refine At.wp (some 81) (P_slice_arr1 (h := 7) rfl Try.underlying105 sz104 rfl rfl ⟨_, _, rfl, rfl⟩ rfl (by omega) (by omega) (by omega) (by omega)) ?_
   refine At.wqn ?_
   refine At.wt rfl ?_
   refine At.s (S_copyM (some 82) 7 7 (S := (vTo KK (spreadS b) s i)) (j := 0) (n := 7) (L := ((vTo KK (spreadS b) s i)).take 7) (p := 1) (m := 7) rfl Try.underlying106 sz104 rfl (fun _ => rfl) rfl rfl (fun _ => rfl) (fun h => ⟨rfl, rfl, rfl⟩) (by rw [List.drop_zero, List.map_take]) (by decide) (by rw [List.length_take, hvl]; decide) (fun _ => rfl) (by omega) ?_)
   refine At.nil ?_
   refine At.next ?_
   refine At.seq ?_
   refine At.region ?_
   refine At.p (some 83) (P_indexAddr_arr1 (j := 4) rfl Try.underlying105 sz104 rfl rfl rfl (by decide)) ?_
   refine At.q (some 84) (Q_loadM (k := 7) (0#32) rfl rfl Try.underlying104 rfl rfl WD) ?_
   refine At.p (some 85) (P_move rfl rfl) ?_
   refine At.p (some 86) (P_add_w UK.u32 rfl rfl rfl) ?_
   refine At.p (some 87) (P_indexAddr_arr1 (j := 4) rfl Try.underlying105 sz104 rfl rfl rfl (by decide)) ?_
   refine At.s (S_storeM none (f := u32V) (k := 7) rfl rfl rfl sz104 rfl rfl rfl WD ?_)
   refine At.nil ?_
   refine At.next ?_
   refine At.region ?_
   refine At.p (some 88) (P_move rfl rfl) ?_
   refine At.p (some 89) (P_move rfl rfl) ?_
   refine At.p (some 90) (P_add_w UK.u32 rfl rfl rfl) ?_
   refine At.p (some 91) (P_indexAddr_arr1 (j := 0) rfl Try.underlying105 sz104 rfl rfl rfl (by decide)) ?_
   refine At.s (S_storeM none (f := u32V) (k := 7) rfl rfl rfl sz104 rfl rfl rfl WD ?_)
   refine At.nil ?_
   refine At.inb_n ?_
   refine At.next ?_
   refine At.region ?_
   refine At.p (some 92) (P_add_i rfl rfl rfl (by omega)) ?_
   refine At.p (some 19) (P_move rfl rfl) ?_
   refine At.nil ?_
   refine At.next ?_
   refine At.to [(3, _), (6, _), (2, _), (7, _), (18, _), (19, _)] [(1, _), (3, _), (6, _), (7, ⟨true, b7, 0, 105, (vTo KK (spreadS b) s (i + 1)).map u32V, 0⟩)] (AllL.cons_ (rfl) (AllL.cons_ (rfl) (AllL.cons_ (rfl) (AllL.cons_ (rfl) (AllL.cons_ (rfl) (AllL.cons_ (rfl) trivial)))))) (AllL.cons_ (rfl) (AllL.cons_ (rfl) (AllL.cons_ (rfl) (AllL.cons_ (congrArg (fun z => some (⟨true, b7, 0, 105, List.map u32V z, 0⟩ : Row)) (mix_row hvl _ _)) trivial)))) ?_
   exact hKc0 _ _ _ (by omega) ⟨i + 1, rfl, rfl, rfl, by omega⟩
  · -- cond 20 f
   obtain rfl : i = 64 := by simp at h20; omega
   have hvl : (vTo KK (spreadS b) s 64).length = 8 := vTo_len hs 64
   refine At.exit ?_
   refine At.thn_e ?_
   refine At.thn_e ?_
   refine At.inb_hit ?_
   refine At.next ?_
   refine At.seq ?_
   refine At.seq ?_
   refine At.region ?_
   refine At.q (some 93) (Q_loadA (k := 7) rfl rfl Try.underlying105 rfl sz105 WD rfl) ?_
   refine At.p (some 94) (P_move rfl rfl) ?_
   refine At.nil ?_
   refine At.next ?_
   refine At.block ?_
   refine At.loopx (I := fun m fr H => ∃ j, m = 8 - j ∧ fr = frOf [(3, ptr b3 0), (6, ptr b6 0), (93, agg32 (vTo KK (spreadS b) s 64)), (94, iV (j : Int))] ∧ H = hOf [(3, ⟨true, b3, 0, 105, (addTo s (vTo KK (spreadS b) s 64) j).map u32V, 0⟩), (6, ⟨true, b6, 0, 105, (List.replicate 8 0#32).map u32V, 0⟩)] ∧ j ≤ 8) ?_ ?_
   ·
    intro Kc1 hKc1
    refine At.to [(3, _), (6, _), (93, _), (94, _)] [(3, ⟨true, b3, 0, 105, (addTo s (vTo KK (spreadS b) s 64) 0).map u32V, 0⟩), (6, _)] (AllL.cons_ (rfl) (AllL.cons_ (rfl) (AllL.cons_ (rfl) (AllL.cons_ (rfl) trivial)))) (AllL.cons_ (congrArg (fun z => some (⟨true, b3, 0, 105, List.map u32V z, 0⟩ : Row)) (addTo_0 _ hs).symm) (AllL.cons_ (rfl) trivial)) ?_
    exact hKc1 _ _ _ ⟨0, rfl, rfl, rfl, by omega⟩
   ·
    rintro m fr H ⟨j, rfl, rfl, rfl, hj⟩ Kc1 hKc1
    refine At.seq ?_
    refine At.region ?_
    refine At.p (some 95) (P_cmp rfl rfl rfl rfl rfl rfl) ?_
    refine At.nil ?_
    refine At.next ?_
    refine At.seq ?_
    refine At.cond rfl (fun h95 => ?_) (fun h95 => ?_)
    · -- cond 95 t
     have hlt : j < 8 := by simp at h95; omega
     have hal := addTo_len s (vTo KK (spreadS b) s 64) j
     refine At.skip ?_
     refine At.next ?_
     refine At.seq ?_
     refine At.block ?_
     refine At.seq ?_
     refine At.region ?_
     refine At.p (some 96) (P_move rfl rfl) ?_
     refine At.p (some 97) (P_indexM (0#32) rfl Try.underlying105 sz104 Try.underlying104 rfl rfl rfl (by omega) WD) ?_
     refine At.p (some 14) (P_assign rfl rfl) ?_
     refine At.p (some 15) (P_assign rfl rfl) ?_
     refine At.nil ?_
     refine At.next ?_
     refine At.region ?_
     refine At.p (some 98) (P_move rfl rfl) ?_
     refine At.p (some 99) (P_indexAddr_arr1 rfl Try.underlying105 sz104 rfl rfl rfl (by omega)) ?_
     refine At.q (some 100) (Q_loadM (k := 3) (0#32) rfl rfl Try.underlying104 rfl rfl WD) ?_
     refine At.p (some 101) (P_move rfl rfl) ?_
     refine At.p (some 102) (P_add_w UK.u32 rfl rfl rfl) ?_
     refine At.p (some 103) (P_indexAddr_arr1 rfl Try.underlying105 sz104 rfl rfl rfl (by omega)) ?_
     refine At.s (S_storeM none (f := u32V) (k := 3) rfl rfl rfl sz104 rfl rfl rfl WD ?_)
     refine At.nil ?_
     refine At.inb_n ?_
     refine At.next ?_
     refine At.region ?_
     refine At.p (some 104) (P_add_i rfl rfl rfl (by omega)) ?_
     refine At.p (some 94) (P_move rfl rfl) ?_
     refine At.nil ?_
     refine At.next ?_
     refine At.to [(3, _), (6, _), (93, _), (94, _)] [(3, ⟨true, b3, 0, 105, (addTo s (vTo KK (spreadS b) s 64) (j + 1)).map u32V, 0⟩), (6, _)] (AllL.cons_ (rfl) (AllL.cons_ (rfl) (AllL.cons_ (rfl) (AllL.cons_ (rfl) trivial)))) (AllL.cons_ (congrArg (fun z => some (⟨true, b3, 0, 105, List.map u32V z, 0⟩ : Row)) (by rw [addTo_at _ _ hlt (Nat.le_refl _), addTo_set _ _ hlt])) (AllL.cons_ (rfl) trivial)) ?_
     exact hKc1 _ _ _ (by omega) ⟨j + 1, rfl, rfl, rfl, by omega⟩
    · -- cond 95 f
     obtain rfl : j = 8 := by simp at h95; omega
     have hal := addTo_len s (vTo KK (spreadS b) s 64) 8
     refine At.exit ?_
     refine At.thn_e ?_
     refine At.thn_e ?_
     refine At.inb_hit ?_
     refine At.next ?_
     refine At.seq ?_
     refine At.region ?_
     refine At.q (some 105) (Q_loadA (k := 3) rfl rfl Try.underlying105 rfl sz105 WD rfl) ?_
     refine At.s (S_storeA none (k := 6) (vs := _) rfl rfl rfl (by first | (rw [sz105]; simp <;> omega) | exact sz105) rfl WA WB rfl WC ?_)
     refine At.nil ?_
     refine At.next ?_
     refine At.ret ?_
     refine At.giveV (.inl rfl) [] (rows' := []) (ResV.cellA (k := 6) rfl rfl Try.underlying105 rfl sz105 (by first | (simp <;> omega) | rfl | (simp [*]; done)) rfl) rfl (by simp) (by simp) ?_
     exact ⟨rfl, rfl⟩

theorem c_mixN {s : List (BitVec 32)} {A A2 : Option Addr} {b : List (BitVec 8)} {n ca bq q ck bk qk : Nat} (hn : b.length = n) (hs : s.length = 8) (h64 : 64 ≤ n) (hA : 0 < n → A = some ⟨bq, q, none⟩) (hca : n ≤ ca) (hA2 : A2 = some ⟨bk, qk, none⟩) (hck : 64 ≤ ck) : Con Try.prog 59 [agg32 s, .slice A n ca, .slice A2 64 ck] [pRow bq q b, w32 bk qk KK] (fun v rs => v = agg32 (mixB s b) ∧ rs = []) := by
 subst hn
 exact c_mix s A A2 b ca bq q ck bk qk hs h64 hA hca hA2 hck
theorem bsum_out (h : List (BitVec 32)) {i : Nat} (hi : i < 32) : (h.getD (i / 4) 0#32 >>> (24 - 8 * ((i : Int) % 4)).toNat).setWidth 8 = outB h i := by
 rw [show (24 - 8 * ((i : Int) % 4)).toNat = 24 - 8 * (i % 4) by omega]
 rfl

theorem c_padded (A : Option Addr) (l : List (BitVec 8)) (ca bq q : Nat) (hA : 0 < l.length → A = some ⟨bq, q, none⟩) (hl : l.length ≤ 1000000) :
  Con Try.prog 58 [.slice A l.length ca] [pRow bq q l] (fun v rs => ∃ A b c, (0 < c → A = some ⟨b, 0, none⟩) ∧ (padS l).length ≤ c ∧ v = .slice A (padS l).length c ∧ rs = [⟨true, b, 0, 5, (padS l).map u8V, c - (padS l).length⟩]) := by
 refine Con.enter Try.func58 Try.ntmps58 (Nat.le_of_ble_eq_true rfl) rfl fun w => ?_
 refine At.seq ?_
 refine At.region ?_
 refine At.p (some 2) (P_assign rfl rfl) ?_
 refine At.nil ?_
 refine At.next ?_
 refine At.seq ?_
 refine At.region ?_
 refine At.s (S_buildSlice0 (some 6) 6 rfl Try.underlying23 sz5 (fun b6 => ?_))
 refine At.p (some 7) (P_move rfl rfl) ?_
 refine At.s (S_appendM (some 8) 6 (l) (f := u8V) (l := []) (L := l) rfl Try.underlying23 Try.underlying23 (.inr ⟨_, rfl⟩) sz5 by5 ze5 rfl rfl (fun h => ⟨absurd h (by omega), rfl⟩) rfl rfl (Src.row (k := 0) (j := 0) rfl hA (fun _ => ⟨rfl, rfl, rfl⟩) (by simp [pRow, List.take_of_length_le]) (by simp)) (fun _ => rfl) (by omega) (by omega) rfl rfl ?_)
 intro A8 b8 c8 g8a g8b
 refine At.s (S_buildSliceV (some 9) 9 ([128#8].map u8V) rfl Try.underlying23 sz5 ze5 rfl rfl (by decide) (by decide) rfl rfl (fun b9 => ?_))
 refine At.s (S_appendM (some 10) 6 (padA l 0) (f := u8V) (l := l) (L := [128#8]) rfl Try.underlying23 Try.underlying23 (.inr ⟨_, rfl⟩) sz5 by5 ze5 rfl rfl (fun h => ⟨g8a h, rfl⟩) rfl (by omega) (Src.row (k := 9) (j := 0) rfl (fun _ => rfl) (fun _ => ⟨rfl, rfl, rfl⟩) rfl rfl) (fun _ => rfl) (by omega) (by omega) rfl rfl ?_)
 intro A3 b3 c3 hA3 hc3
 refine At.p (some 3) (P_assign rfl rfl) ?_
 refine At.nil ?_
 refine At.next ?_
 refine At.seq ?_
 refine At.block ?_
 refine At.loopx (I := fun m fr H => ∃ (z b3 c3 : Nat) (A3 : Option Addr), m = padZ l.length - z ∧ fr = frOf [(0, .slice A l.length ca), (3, .slice A3 (padA l z).length c3)] ∧ H = hOf [(0, pRow bq q l), (6, ⟨true, b3, 0, 5, (padA l z).map u8V, c3 - (padA l z).length⟩)] ∧ z ≤ padZ l.length ∧ (0 < c3 → A3 = some ⟨b3, 0, none⟩) ∧ (padA l z).length ≤ c3) ?_ ?_
 ·
  intro Kc0 hKc0
  refine At.to [(0, _), (3, _)] [(0, _), (6, ⟨true, b3, 0, 5, (padA l 0).map u8V, c3 - (padA l 0).length⟩)] (AllL.cons_ (rfl) (AllL.cons_ (rfl) trivial)) (AllL.cons_ (rfl) (AllL.cons_ (rfl) trivial)) ?_
  exact hKc0 _ _ _ ⟨0, b3, c3, A3, rfl, rfl, rfl, by omega, hA3, hc3⟩
 ·
  rintro m fr H ⟨z, b3, c3, A3, rfl, rfl, rfl, hz, hA3, hc3⟩ Kc0 hKc0
  refine At.seq ?_
  refine At.seq ?_
  refine At.region ?_
  refine At.p (some 11) (P_move rfl rfl) ?_
  refine At.p (some 12) (P_len_sl rfl rfl ⟨_, Try.underlying23⟩ rfl) ?_
  refine At.p (some 13) (P_rem_i rfl rfl rfl (by omega) (by first | decide | omega)) ?_
  refine At.p (some 14) (P_cmp rfl rfl rfl rfl rfl rfl) ?_
  refine At.nil ?_
  refine At.next ?_
  refine At.cond rfl (fun h14 => ?_) (fun h14 => ?_)
  · -- cond 14 t
   have hpl := padA_len l z
   have hzl := padZ_lt l.length
   have hlt : z < padZ l.length := by
    have h2 : ¬ ((padA l z).length : Int) % 64 = 56 := by simpa using h14
    unfold padZ at *
    omega
   refine At.skip ?_
   refine At.next ?_
   refine At.block ?_
   refine At.region ?_
   refine At.p (some 15) (P_move rfl rfl) ?_
   refine At.s (S_buildSliceV (some 16) 16 ([0#8].map u8V) rfl Try.underlying23 sz5 ze5 rfl rfl (by decide) (by decide) rfl rfl (fun b16 => ?_))
   refine At.s (S_appendM (some 17) 6 (padA l (z + 1)) (f := u8V) (l := padA l z) (L := [0#8]) rfl Try.underlying23 Try.underlying23 (.inr ⟨_, rfl⟩) sz5 by5 ze5 rfl rfl (fun h => ⟨hA3 h, rfl⟩) rfl (by omega) (Src.row (k := 16) (j := 0) rfl (fun _ => rfl) (fun _ => ⟨rfl, rfl, rfl⟩) rfl rfl) (fun _ => rfl) (by omega) (by omega) rfl rfl ?_)
   intro A3 b3 c3 g1 g2
   refine At.p (some 3) (P_assign rfl rfl) ?_
   refine At.nil ?_
   refine At.inb_n ?_
   refine At.next ?_
   refine At.to [(0, _), (3, _)] [(0, _), (6, _)] (AllL.cons_ (rfl) (AllL.cons_ (rfl) trivial)) (AllL.cons_ (rfl) (AllL.cons_ (rfl) trivial)) ?_
   exact hKc0 _ _ _ (by omega) ⟨z + 1, _, _, _, rfl, rfl, rfl, by omega, g1, g2⟩
  · -- cond 14 f
   have hpl := padA_len l z
   have h2 : ((padA l z).length : Int) % 64 = 56 := by simpa using h14
   have hze : z = padZ l.length := by
    unfold padZ at *
    omega
   subst hze
   have hzl := padZ_lt l.length
   refine At.exit ?_
   refine At.thn_e ?_
   refine At.thn_e ?_
   refine At.inb_hit ?_
   refine At.next ?_
   refine At.seq ?_
   refine At.region ?_
   refine At.p (some 18) (P_move rfl rfl) ?_
   refine At.p (some 19) (P_len_sl rfl rfl ⟨_, Try.underlying23⟩ rfl) ?_
   refine At.p (some 20) (P_conv_iw UK.u64 rfl Try.underlying3 Try.underlying66 rfl) ?_
   refine At.p (some 21) (P_mul_w UK.u64 (a := 8#64) rfl rfl rfl) ?_
   refine At.p (some 4) (P_assign rfl rfl) ?_
   refine At.nil ?_
   refine At.next ?_
   refine At.seq ?_
   refine At.seq ?_
   refine At.region ?_
   refine At.p (some 5) (P_assign rfl rfl) ?_
   refine At.nil ?_
   refine At.next ?_
   refine At.block ?_
   refine At.loopx (I := fun m fr H => ∃ (e b3 c3 : Nat) (A3 : Option Addr), m = 8 - e ∧ fr = frOf [(3, .slice A3 (padC l e).length c3), (4, u64V (bits8 l.length)), (5, iV (7 - (e : Int)))] ∧ H = hOf [(6, ⟨true, b3, 0, 5, (padC l e).map u8V, c3 - (padC l e).length⟩)] ∧ e ≤ 8 ∧ (0 < c3 → A3 = some ⟨b3, 0, none⟩) ∧ (padC l e).length ≤ c3) ?_ ?_
   ·
    intro Kc1 hKc1
    refine At.to [(3, .slice A3 (padC l 0).length c3), (4, _), (5, iV (7 - ((0 : Nat) : Int)))] [(6, ⟨true, b3, 0, 5, (padC l 0).map u8V, c3 - (padC l 0).length⟩)] (AllL.cons_ (rfl) (AllL.cons_ (rfl) (AllL.cons_ (rfl) trivial))) (AllL.cons_ (rfl) trivial) ?_
    exact hKc1 _ _ _ ⟨0, b3, c3, A3, rfl, rfl, rfl, by omega, hA3, hc3⟩
   ·
    rintro m fr H ⟨e, b3, c3, A3, rfl, rfl, rfl, he, hA3, hc3⟩ Kc1 hKc1
    refine At.seq ?_
    refine At.seq ?_
    refine At.region ?_
    refine At.p (some 22) (P_move rfl rfl) ?_
    refine At.p (some 23) (P_cmp rfl rfl rfl rfl rfl rfl) ?_
    refine At.nil ?_
    refine At.next ?_
    refine At.cond rfl (fun h23 => ?_) (fun h23 => ?_)
    · -- cond 23 t
     have hlt : e < 8 := by simp at h23; omega
     have hpl := padC_len l e
     have hzl := padZ_lt l.length
     refine At.skip ?_
     refine At.next ?_
     refine At.seq ?_
     refine At.block ?_
     refine At.region ?_
     refine At.p (some 26) (P_move rfl rfl) ?_
     refine At.p (some 27) (P_move rfl rfl) ?_
     refine At.p (some 28) (P_move rfl rfl) ?_
     refine At.p (some 29) (P_mul_i rfl rfl rfl (by omega)) ?_
     refine At.p (some 30) (P_shr_w UK.u64 (n := 64) rfl rfl rfl (by first | decide | omega)) ?_
     refine At.p (some 31) (P_conv_ww UK.u8 (m := 64) rfl Try.underlying66 Try.underlying5 rfl) ?_
     refine At.s (S_buildSliceV (some 32) 32 ([(bits8 l.length >>> (8 * (7 - (e : Int))).toNat).setWidth 8].map u8V) rfl Try.underlying23 sz5 ze5 rfl rfl (by decide) (by decide) rfl rfl (fun b32 => ?_))
     refine At.s (S_appendM (some 33) 6 (padC l (e + 1)) (f := u8V) (l := padC l e) (L := [(bits8 l.length >>> (8 * (7 - (e : Int))).toNat).setWidth 8]) rfl Try.underlying23 Try.underlying23 (.inr ⟨_, rfl⟩) sz5 by5 ze5 rfl rfl (fun h => ⟨hA3 h, rfl⟩) rfl (by omega) (Src.row (k := 32) (j := 0) rfl (fun _ => rfl) (fun _ => ⟨rfl, rfl, rfl⟩) rfl rfl) (fun _ => rfl) (by omega) (by omega) (by rw [show (8 * (7 - (e : Int))).toNat = 8 * (7 - e) by omega]; rfl) rfl ?_)
     intro A3 b3 c3 g1 g2
     refine At.p (some 3) (P_assign rfl rfl) ?_
     refine At.nil ?_
     refine At.inb_n ?_
     refine At.next ?_
     refine At.region ?_
     refine At.p (some 24) (P_move rfl rfl) ?_
     refine At.p (some 25) (P_sub_i rfl rfl rfl (by omega)) ?_
     refine At.p (some 5) (P_assign rfl rfl) ?_
     refine At.nil ?_
     refine At.next ?_
     refine At.to [(3, _), (4, _), (5, iV (7 - ((e + 1 : Nat) : Int)))] [(6, _)] (AllL.cons_ (rfl) (AllL.cons_ (rfl) (AllL.cons_ (congrArg (fun z => some (iV z)) (by omega)) trivial))) (AllL.cons_ (rfl) trivial) ?_
     exact hKc1 _ _ _ (by omega) ⟨e + 1, _, _, _, rfl, rfl, rfl, by omega, g1, g2⟩
    · -- cond 23 f
     obtain rfl : e = 8 := by simp at h23; omega
     refine At.exit ?_
     refine At.thn_e ?_
     refine At.thn_e ?_
     refine At.inb_hit ?_
     refine At.next ?_
     refine At.seq ?_
     refine At.region ?_
     refine At.p (some 34) (P_move rfl rfl) ?_
     refine At.p (some 2) (P_assign rfl rfl) ?_
     refine At.nil ?_
     refine At.next ?_
     refine At.ret ?_
     refine At.give (.inl rfl) [6] (rows' := [_]) (vs := [_]) rfl ⟨rfl, trivial⟩ rfl (by simp) (by simp) ⟨A3, b3, c3, hA3, by rw [padC_8] at hc3; exact hc3, by rw [padC_8]; rfl, by rw [padC_8]⟩

theorem c_Sum (A : Option Addr) (l : List (BitVec 8)) (ca bq q : Nat) (hA : 0 < l.length → A = some ⟨bq, q, none⟩) (hl : l.length ≤ 1000000) :
  Con Try.prog 18 [.slice A l.length ca] [pRow bq q l] (fun v rs => v = aggK (sumS l) ∧ rs = []) := by
 refine Con.enter Try.func18 Try.ntmps18 (Nat.le_of_ble_eq_true rfl) rfl fun w => ?_
 refine At.seq ?_
 have hpm := padS_mod l
 have hpl := padS_len l
 have hzl := padZ_lt l.length
 refine At.region ?_
 refine At.s (S_alloc (some 2) 2 (zs := (List.replicate 32 0#8).map u8V) rfl ze22 rfl (fun b2 => ?_))
 refine At.nil ?_
 refine At.next ?_
 refine At.seq ?_
 refine At.region ?_
 refine At.s (S_alloc (some 3) 3 (zs := (List.replicate 8 0#32).map u32V) rfl ze105 rfl (fun b3 => ?_))
 refine At.nil ?_
 refine At.next ?_
 refine At.seq ?_
 refine At.draws 2 [] [.q false [0], .e false 1] (by kernel_rfl) (by kernel_rfl) ?_
 refine At.wp (some 8) (P_slice_arr1 rfl Try.underlying105 sz104 rfl rfl rfl rfl (by omega) (by omega) (by omega) (by omega)) ?_
 refine At.wqn ?_
 refine At.we ?_
 refine SStep.up (S_callV (some 9) [] [9] (vs := [_, _]) rfl en57 rfl V0 (by simp) (c_roots 8 false (by decide)) (by rintro _ _ ⟨A9, b9, c9, g9a, g9b, rfl, rfl⟩; rfl) ?_)
 rintro _ _ ⟨A9, b9, c9, g9a, g9b, rfl, rfl⟩
 rw [roots8]
 refine At.wt rfl ?_
 refine At.s (S_copyM (some 10) 3 9 (S := (List.replicate 8 0#32)) (j := 0) (n := 8) (L := H0) (p := 0) (m := 8) rfl Try.underlying106 sz104 rfl (fun _ => rfl) rfl rfl (fun h => g9a (by omega)) (fun h => ⟨rfl, rfl, rfl⟩) rfl rfl rfl (fun _ => rfl) (by decide) ?_)
 rw [show splice (List.replicate 8 0#32) 0 H0 = H0 from rfl]
 refine At.nil ?_
 refine At.next ?_
 refine At.seq ?_
 refine At.region ?_
 refine At.s (S_callV (some 11) [] [11] (vs := [_, _]) rfl en57 rfl V0 (by simp) (c_roots 64 true (by decide)) (by rintro _ _ ⟨A11, b11, c11, g11a, g11b, rfl, rfl⟩; rfl) ?_)
 rintro _ _ ⟨A11, b11, c11, g11a, g11b, rfl, rfl⟩
 rw [roots64]
 refine At.p (some 4) (P_assign rfl rfl) ?_
 refine At.nil ?_
 refine At.next ?_
 refine At.seq ?_
 refine At.seq ?_
 refine At.region ?_
 refine At.p (some 12) (P_move rfl rfl) ?_
 refine At.s (S_callV (some 13) [(0, _)] [13] (vs := [_]) rfl en58 rfl (VN (by simp) rfl View.all V0) (by simp) (c_padded A l ca bq q hA hl) (by rintro _ _ ⟨A13, b13, c13, g13a, g13b, rfl, rfl⟩; rfl) ?_)
 rintro _ _ ⟨A13, b13, c13, g13a, g13b, rfl, rfl⟩
 refine At.p (some 5) (P_assign rfl rfl) ?_
 refine At.nil ?_
 refine At.next ?_
 refine At.block ?_
 refine At.loopx (I := fun m fr H => ∃ (n cn : Nat) (An : Option Addr), m = (padS l).length + 64 - 64 * n ∧ fr = frOf [(2, ptr b2 0), (3, ptr b3 0), (4, .slice A11 64 c11), (5, .slice An ((padS l).length - 64 * n) cn)] ∧ H = hOf [(2, ⟨true, b2, 0, 22, (List.replicate 32 0#8).map u8V, 0⟩), (3, ⟨true, b3, 0, 105, (hTo l n).map u32V, 0⟩), (11, ⟨true, b11, 0, 104, KK.map u32V, c11 - 64⟩), (13, ⟨true, b13, 0, 5, (padS l).map u8V, c13 - (padS l).length⟩)] ∧ (64 * n < (padS l).length → An = some ⟨b13, 64 * n, none⟩) ∧ (padS l).length - 64 * n ≤ cn ∧ 64 * n ≤ (padS l).length) ?_ ?_
 ·
  intro Kc0 hKc0
  refine At.to [(2, _), (3, _), (4, _), (5, _)] [(2, _), (3, ⟨true, b3, 0, 105, (hTo l 0).map u32V, 0⟩), (11, _), (13, _)] (AllL.cons_ (rfl) (AllL.cons_ (rfl) (AllL.cons_ (rfl) (AllL.cons_ (rfl) trivial)))) (AllL.cons_ (rfl) (AllL.cons_ (rfl) (AllL.cons_ (rfl) (AllL.cons_ (rfl) trivial)))) ?_
  exact hKc0 _ _ _ ⟨0, c13, A13, rfl, rfl, rfl, fun h => g13a (by omega), by omega, by omega⟩
 ·
  rintro m fr H ⟨n, cn, An, rfl, rfl, rfl, hAn, hcn, hnn⟩ Kc0 hKc0
  refine At.seq ?_
  refine At.seq ?_
  refine At.region ?_
  refine At.p (some 14) (P_move rfl rfl) ?_
  refine At.p (some 15) (P_len_sl rfl rfl ⟨_, Try.underlying23⟩ rfl) ?_
  refine At.p (some 16) (P_cmp rfl rfl rfl rfl rfl rfl) ?_
  refine At.nil ?_
  refine At.next ?_
  refine At.cond rfl (fun h16 => ?_) (fun h16 => ?_)
  · -- cond 16 t
   have hlt : 64 * n < (padS l).length := by simp at h16; omega
   have hhl := hTo_len l n
   have hml : (mixB (hTo l n) (blk l n)).length = 8 := addTo_len _ _ _
   refine At.skip ?_
   refine At.next ?_
   refine At.seq ?_
   refine At.block ?_
   refine At.region ?_
   refine At.q (some 19) (Q_loadA (k := 3) rfl rfl Try.underlying105 rfl sz105 WD rfl) ?_
   refine At.p (some 20) (P_move rfl rfl) ?_
   refine At.p (some 21) (P_move rfl rfl) ?_
   refine At.s (S_callV (some 22) [(13, _), (11, _)] [] (vs := [_, _, _]) rfl en59 rfl (VN (by simp) rfl (View.sub (j := 64 * n) (m := (padS l).length - 64 * n) (by omega) (by rw [List.take_of_length_le (by simp)]; rfl)) (VN (by simp) rfl View.all V0)) (by simp) (c_mixN (s := hTo l n) (b := blk l n) (n := (padS l).length - 64 * n) (by simp [blk]) (hTo_len l n) (by omega) (fun h => hAn (by omega)) hcn (g11a (by omega)) g11b) (by rintro _ _ ⟨rfl, rfl⟩; rfl) ?_)
   rintro _ _ ⟨rfl, rfl⟩
   refine At.s (S_storeA none (k := 3) (vs := _) rfl rfl rfl (by first | (rw [sz105]; simp <;> omega) | exact sz105) rfl WA WB rfl WC ?_)
   refine At.nil ?_
   refine At.inb_n ?_
   refine At.next ?_
   refine At.region ?_
   refine At.p (some 17) (P_move rfl rfl) ?_
   refine At.p (some 18) (P_slice_sl (l := 64) rfl Try.underlying23 sz5 rfl ⟨_, _, rfl, rfl⟩ rfl rfl (by omega) (by omega) (by omega)) ?_
   refine At.p (some 5) (P_assign rfl rfl) ?_
   refine At.nil ?_
   refine At.next ?_
   refine At.to [(2, _), (3, _), (4, _), (5, .slice (cut An 64 cn 1) ((padS l).length - 64 * (n + 1)) (cn - 64))] [(2, _), (3, ⟨true, b3, 0, 105, (hTo l (n + 1)).map u32V, 0⟩), (11, _), (13, _)] (AllL.cons_ (rfl) (AllL.cons_ (rfl) (AllL.cons_ (rfl) (AllL.cons_ (congrArg (fun z => some (Value.slice (cut An 64 cn 1) z (cn - 64))) (by omega)) trivial)))) (AllL.cons_ (rfl) (AllL.cons_ (rfl) (AllL.cons_ (rfl) (AllL.cons_ (rfl) trivial)))) ?_
   exact hKc0 _ _ _ (by omega) ⟨n + 1, cn - 64, cut An 64 cn 1, rfl, rfl, rfl, fun h => by rw [cut_addr1 (hAn (by omega)) (by omega)]; congr 2, by omega, by omega⟩
  · -- cond 16 f
   obtain rfl : n = nB l := by unfold nB; simp at h16; omega
   have hhl := hTo_len l (nB l)
   refine At.exit ?_
   refine At.thn_e ?_
   refine At.thn_e ?_
   refine At.inb_hit ?_
   refine At.next ?_
   refine At.seq ?_
   refine At.region ?_
   refine At.s (S_alloc (some 6) 6 (zs := (outN (hTo l (nB l)) 0).map u8V) rfl ze22 rfl (fun b6 => ?_))
   refine At.nil ?_
   refine At.next ?_
   refine At.seq ?_
   refine At.seq ?_
   refine At.region ?_
   refine At.p (some 23) (P_move rfl rfl) ?_
   refine At.nil ?_
   refine At.next ?_
   refine At.block ?_
   refine At.loopx (I := fun m fr H => ∃ k, m = 32 - k ∧ fr = frOf [(2, ptr b2 0), (3, ptr b3 0), (6, ptr b6 0), (23, iV (k : Int))] ∧ H = hOf [(2, ⟨true, b2, 0, 22, (List.replicate 32 0#8).map u8V, 0⟩), (3, ⟨true, b3, 0, 105, (hTo l (nB l)).map u32V, 0⟩), (6, ⟨true, b6, 0, 22, (outN (hTo l (nB l)) k).map u8V, 0⟩)] ∧ k ≤ 32) ?_ ?_
   ·
    intro Kc1 hKc1
    refine At.to [(2, _), (3, _), (6, _), (23, _)] [(2, _), (3, _), (6, ⟨true, b6, 0, 22, (outN (hTo l (nB l)) 0).map u8V, 0⟩)] (AllL.cons_ (rfl) (AllL.cons_ (rfl) (AllL.cons_ (rfl) (AllL.cons_ (rfl) trivial)))) (AllL.cons_ (rfl) (AllL.cons_ (rfl) (AllL.cons_ (rfl) trivial))) ?_
    exact hKc1 _ _ _ ⟨0, rfl, rfl, rfl, by omega⟩
   ·
    rintro m fr H ⟨k, rfl, rfl, rfl, hk⟩ Kc1 hKc1
    refine At.seq ?_
    refine At.region ?_
    refine At.p (some 24) (P_cmp rfl rfl rfl rfl rfl rfl) ?_
    refine At.nil ?_
    refine At.next ?_
    refine At.seq ?_
    refine At.cond rfl (fun h24 => ?_) (fun h24 => ?_)
    · -- cond 24 t
     have hlt : k < 32 := by simp at h24; omega
     have hol := outN_len (hTo l (nB l)) hk
     refine At.skip ?_
     refine At.next ?_
     refine At.seq ?_
     refine At.block ?_
     refine At.seq ?_
     refine At.region ?_
     refine At.p (some 25) (P_move rfl rfl) ?_
     refine At.p (some 7) (P_assign rfl rfl) ?_
     refine At.nil ?_
     refine At.next ?_
     refine At.region ?_
     refine At.p (some 26) (P_move rfl rfl) ?_
     refine At.p (some 27) (P_move rfl rfl) ?_
     refine At.p (some 28) (P_quo_i rfl rfl rfl (by omega) (by omega) (by first | decide | omega)) ?_
     refine At.p (some 29) (P_indexAddr_arr1 (j := k / 4) rfl Try.underlying105 sz104 rfl rfl (by omega) (by omega)) ?_
     refine At.q (some 30) (Q_loadM (k := 3) (0#32) rfl rfl Try.underlying104 rfl rfl WD) ?_
     refine At.p (some 31) (P_move rfl rfl) ?_
     refine At.p (some 32) (P_rem_i rfl rfl rfl (by omega) (by first | decide | omega)) ?_
     refine At.p (some 33) (P_mul_i rfl rfl rfl (by omega)) ?_
     refine At.p (some 34) (P_sub_i rfl rfl rfl (by omega)) ?_
     refine At.p (some 35) (P_shr_w UK.u32 (n := 32) rfl rfl rfl (by first | decide | omega)) ?_
     refine At.p (some 36) (P_conv_ww UK.u8 (m := 32) rfl Try.underlying104 Try.underlying5 rfl) ?_
     refine At.p (some 37) (P_indexAddr_arr1 rfl Try.underlying22 sz5 rfl rfl rfl (by omega)) ?_
     refine At.s (S_storeM none (f := u8V) (k := 6) rfl rfl rfl sz5 rfl rfl rfl WD ?_)
     refine At.nil ?_
     refine At.inb_n ?_
     refine At.next ?_
     refine At.region ?_
     refine At.p (some 38) (P_add_i rfl rfl rfl (by omega)) ?_
     refine At.p (some 23) (P_move rfl rfl) ?_
     refine At.nil ?_
     refine At.next ?_
     refine At.to [(2, _), (3, _), (6, _), (23, _)] [(2, _), (3, _), (6, ⟨true, b6, 0, 22, (outN (hTo l (nB l)) (k + 1)).map u8V, 0⟩)] (AllL.cons_ (rfl) (AllL.cons_ (rfl) (AllL.cons_ (rfl) (AllL.cons_ (rfl) trivial)))) (AllL.cons_ (rfl) (AllL.cons_ (rfl) (AllL.cons_ (congrArg (fun z => some (⟨true, b6, 0, 22, List.map u8V z, 0⟩ : Row)) (by rw [← outN_set _ hlt, ← bsum_out _ hlt])) trivial))) ?_
     exact hKc1 _ _ _ (by omega) ⟨k + 1, rfl, rfl, rfl, by omega⟩
    · -- cond 24 f
     obtain rfl : k = 32 := by simp at h24; omega
     have hol := outN_len (hTo l (nB l)) hk
     refine At.exit ?_
     refine At.thn_e ?_
     refine At.thn_e ?_
     refine At.inb_hit ?_
     refine At.next ?_
     refine At.seq ?_
     refine At.region ?_
     refine At.q (some 39) (Q_loadA (k := 6) rfl rfl Try.underlying22 rfl sz22 WD rfl) ?_
     refine At.s (S_storeA none (k := 2) (vs := _) rfl rfl rfl (by first | (rw [sz22]; simp <;> omega) | exact sz22) rfl WA WB rfl WC ?_)
     refine At.nil ?_
     refine At.next ?_
     refine At.ret ?_
     refine At.giveV (.inl rfl) [] (rows' := []) (ResV.cellA (k := 2) rfl rfl Try.underlying22 rfl sz22 (by first | (simp <;> omega) | rfl | (simp [*]; done)) rfl) rfl (by simp) (by simp) ?_
     exact ⟨by rw [outN_fin]; rfl, rfl⟩

theorem c_SumN {A : Option Addr} {l : List (BitVec 8)} {n ca bq q : Nat} (hn : l.length = n) (hA : 0 < n → A = some ⟨bq, q, none⟩) (hl : n ≤ 1000000) : Con Try.prog 18 [.slice A n ca] [pRow bq q l] (fun v rs => v = aggK (sumS l) ∧ rs = []) := by
 subst hn
 exact c_Sum A l ca bq q hA hl


end Go.Proofs.Ytcjfkmhijfcciaa

