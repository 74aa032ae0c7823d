import Derived.Test.YtnhjmapapbhhpaaXT
import Derived.Test.YtnhjmapapbhhpaaCV1
import Derived.Test.YtnhjmapapbhhpaaSE20
import Derived.Test.YtnhjmapapbhhpaaSE25
import Derived.Test.YtnhjmapapbhhpaaSE31
import Derived.Test.YtnhjmapapbhhpaaSE34
namespace Go.Proofs.Ytnhjmapapbhhpaa
set_option maxRecDepth 20000
set_option linter.unusedVariables false
set_option linter.unusedSimpArgs false
open Go.SE Go.RowKit
theorem ext_add : ExtAdd Try.prog 28 := run_callFunc_extern Try.func28 (by kernel_rfl) (by kernel_rfl) (by kernel_rfl) (by kernel_rfl)
def aggK (l : List (BitVec 8)) : Value := .agg (l.map u8V).toArray

def mulH (x y : BitVec 64) : BitVec 64 := BitVec.ofNat 64 (x.toNat * y.toNat / 18446744073709551616)

theorem mul_words (x y : BitVec 64) : (x >>> 32) * (y >>> 32) + ((x >>> 32) * (y &&& 4294967295#64) + ((x &&& 4294967295#64) * (y &&& 4294967295#64)) >>> 32) >>> 32 + ((((x >>> 32) * (y &&& 4294967295#64) + ((x &&& 4294967295#64) * (y &&& 4294967295#64)) >>> 32) &&& 4294967295#64) + (x &&& 4294967295#64) * (y >>> 32)) >>> 32 = mulH x y := by
  apply BitVec.eq_of_toNat_eq
  have hx := x.isLt
  have hy := y.isLt
  have e : ∀ z : BitVec 64, (z &&& 4294967295#64).toNat = z.toNat % 4294967296 := fun z => by
    rw [BitVec.toNat_and]
    exact Nat.and_two_pow_sub_one_eq_mod z.toNat 32
  have d : ∀ z : BitVec 64, (z >>> 32).toNat = z.toNat / 4294967296 := fun z => by
    rw [BitVec.toNat_ushiftRight, Nat.shiftRight_eq_div_pow]
  obtain ⟨h1, h2, h3, h4⟩ := Lib.mul64_hi x.toNat y.toNat hx hy
  have ha : x.toNat / 4294967296 * (y.toNat % 4294967296) < 18446744073709551616 := by omega
  have hb : x.toNat % 4294967296 * (y.toNat / 4294967296) < 18446744073709551616 := by omega
  have hp : x.toNat * y.toNat / 18446744073709551616 < 18446744073709551616 := by
    rw [Nat.div_lt_iff_lt_mul (by decide)]
    exact Nat.mul_lt_mul'' hx hy
  have hc : x.toNat / 4294967296 * (y.toNat / 4294967296) < 18446744073709551616 := by omega
  unfold mulH
  simp only [BitVec.toNat_add, BitVec.toNat_mul, e, d, BitVec.toNat_ofNat]
  rw [Nat.mod_eq_of_lt (show x.toNat % 4294967296 * (y.toNat % 4294967296) < 2 ^ 64 from h1), Nat.mod_eq_of_lt (show x.toNat / 4294967296 * (y.toNat % 4294967296) < 2 ^ 64 from ha), Nat.mod_eq_of_lt (show x.toNat % 4294967296 * (y.toNat / 4294967296) < 2 ^ 64 from hb), Nat.mod_eq_of_lt (show x.toNat / 4294967296 * (y.toNat / 4294967296) < 2 ^ 64 from hc), Nat.mod_eq_of_lt (show _ < 2 ^ 64 from h2), Nat.mod_eq_of_lt (show _ < 2 ^ 64 from h3)]
  omega

theorem c_mul (x y : BitVec 64) :
    Con Try.prog 30 [u64V x, u64V y] [] (fun v rs => v = .tuple #[u64V (mulH x y), u64V (x * y)] ∧ rs = []) := by
  refine Con.enter Try.func30 Try.ntmps30 (Nat.le_of_ble_eq_true rfl) rfl fun w => ?_
  refine At.seq ?_
  refine At.region ?_
  refine At.p (some 4) (P_assign rfl rfl) ?_
  refine At.p (some 5) (P_assign rfl rfl) ?_
  refine At.nil ?_
  refine At.next ?_
  refine At.seq ?_
  refine At.region ?_
  refine At.p (some 14) (P_move rfl rfl) ?_
  refine At.p (some 15) (P_and_w UK.u64 (b := 4294967295#64) rfl rfl rfl) ?_
  refine At.p (some 6) (P_assign rfl rfl) ?_
  refine At.nil ?_
  refine At.next ?_
  refine At.seq ?_
  refine At.region ?_
  refine At.p (some 16) (P_move rfl rfl) ?_
  refine At.p (some 17) (P_shr_w UK.u64 (n := 64) rfl rfl rfl (by first | decide | omega)) ?_
  refine At.p (some 7) (P_assign rfl rfl) ?_
  refine At.nil ?_
  refine At.next ?_
  refine At.seq ?_
  refine At.region ?_
  refine At.p (some 18) (P_move rfl rfl) ?_
  refine At.p (some 19) (P_and_w UK.u64 (b := 4294967295#64) rfl rfl rfl) ?_
  refine At.p (some 8) (P_assign rfl rfl) ?_
  refine At.nil ?_
  refine At.next ?_
  refine At.seq ?_
  refine At.region ?_
  refine At.p (some 20) (P_move rfl rfl) ?_
  refine At.p (some 21) (P_shr_w UK.u64 (n := 64) rfl rfl rfl (by first | decide | omega)) ?_
  refine At.p (some 9) (P_assign rfl rfl) ?_
  refine At.nil ?_
  refine At.next ?_
  refine At.seq ?_
  refine At.region ?_
  refine At.p (some 22) (P_move rfl rfl) ?_
  refine At.p (some 23) (P_move rfl rfl) ?_
  refine At.p (some 24) (P_mul_w UK.u64 rfl rfl rfl) ?_
  refine At.p (some 10) (P_assign rfl rfl) ?_
  refine At.nil ?_
  refine At.next ?_
  refine At.seq ?_
  refine At.region ?_
  refine At.p (some 25) (P_move rfl rfl) ?_
  refine At.p (some 26) (P_move rfl rfl) ?_
  refine At.p (some 27) (P_mul_w UK.u64 rfl rfl rfl) ?_
  refine At.p (some 28) (P_move rfl rfl) ?_
  refine At.p (some 29) (P_shr_w UK.u64 (n := 64) rfl rfl rfl (by first | decide | omega)) ?_
  refine At.p (some 30) (P_add_w UK.u64 rfl rfl rfl) ?_
  refine At.p (some 11) (P_assign rfl rfl) ?_
  refine At.nil ?_
  refine At.next ?_
  refine At.seq ?_
  refine At.region ?_
  refine At.p (some 31) (P_move rfl rfl) ?_
  refine At.p (some 32) (P_and_w UK.u64 (b := 4294967295#64) rfl rfl rfl) ?_
  refine At.p (some 12) (P_assign rfl rfl) ?_
  refine At.nil ?_
  refine At.next ?_
  refine At.seq ?_
  refine At.region ?_
  refine At.p (some 33) (P_move rfl rfl) ?_
  refine At.p (some 34) (P_shr_w UK.u64 (n := 64) rfl rfl rfl (by first | decide | omega)) ?_
  refine At.p (some 13) (P_assign rfl rfl) ?_
  refine At.nil ?_
  refine At.next ?_
  refine At.seq ?_
  refine At.region ?_
  refine At.p (some 35) (P_move rfl rfl) ?_
  refine At.p (some 36) (P_move rfl rfl) ?_
  refine At.p (some 37) (P_move rfl rfl) ?_
  refine At.p (some 38) (P_mul_w UK.u64 rfl rfl rfl) ?_
  refine At.p (some 39) (P_add_w UK.u64 rfl rfl rfl) ?_
  refine At.p (some 12) (P_assign rfl rfl) ?_
  refine At.nil ?_
  refine At.next ?_
  refine At.seq ?_
  refine At.region ?_
  refine At.p (some 40) (P_move rfl rfl) ?_
  refine At.p (some 41) (P_move rfl rfl) ?_
  refine At.p (some 42) (P_mul_w UK.u64 rfl rfl rfl) ?_
  refine At.p (some 43) (P_move rfl rfl) ?_
  refine At.p (some 44) (P_add_w UK.u64 rfl rfl rfl) ?_
  refine At.p (some 45) (P_move rfl rfl) ?_
  refine At.p (some 46) (P_shr_w UK.u64 (n := 64) rfl rfl rfl (by first | decide | omega)) ?_
  refine At.p (some 47) (P_add_w UK.u64 rfl rfl rfl) ?_
  refine At.p (some 4) (P_assign rfl rfl) ?_
  refine At.nil ?_
  refine At.next ?_
  refine At.seq ?_
  refine At.region ?_
  refine At.p (some 48) (P_move rfl rfl) ?_
  refine At.p (some 49) (P_move rfl rfl) ?_
  refine At.p (some 50) (P_mul_w UK.u64 rfl rfl rfl) ?_
  refine At.p (some 5) (P_assign rfl rfl) ?_
  refine At.nil ?_
  refine At.next ?_
  refine At.ret ?_
  refine At.give (.inl rfl) [] (rows' := []) (vs := [_, _]) rfl ⟨rfl, rfl, trivial⟩ rfl (by simp) (by simp) ⟨congrArg (fun z => Value.tuple #[u64V z, u64V (x * y)]) (mul_words x y), rfl⟩

theorem BD {p : Prop} (h : p := by first | assumption | (first | apply LtA.of_bnd | skip); repeat (first | assumption | exact bnd_num | apply bnd_mul | apply bnd_add | apply bnd_sub)) : p := h

set_option maxHeartbeats 2000000 in
theorem c_plus {wv : List (BitVec 64)} {a : BitVec 64} {b : BitVec 64} (hwv : wv.length = 2) :
    Con Try.prog 27 [.agg ((wv).map u64V).toArray, u64V a, u64V b] [] (fun v rs => v = .agg ((plusW wv a b).map u64V).toArray ∧ rs = []) := by
  refine Con.enter Try.func27 Try.ntmps27 (Nat.le_of_ble_eq_true rfl) rfl fun w => ?_
  refine At.seq ?_
  refine At.region ?_
  refine At.s (S_box (some 3) 3 (zs := (wv).map u64V) rfl rfl rfl (fun b3 => ?_))
  refine At.s (S_alloc (some 6) 6 (zs := [u64V (0#64), u64V (0#64)]) rfl ze51 rfl (fun b6 => ?_))
  refine At.nil ?_
  refine At.next ?_
  refine At.seq ?_
  refine At.region ?_
  refine At.p (some 12) (P_move rfl rfl) ?_
  refine At.p (some 13) (P_move rfl rfl) ?_
  refine At.s (S_callV (some 14) [] [] (vs := [_, _]) rfl en30 rfl V0 (by simp) (c_mul a b) (by rintro _ _ ⟨rfl, rfl⟩; rfl) ?_)
  rintro _ _ ⟨rfl, rfl⟩
  refine At.p (some 11) (P_move rfl rfl) ?_
  refine At.p (some 15) (P_extract rfl rfl rfl) ?_
  refine At.p (some 16) (P_extract rfl rfl rfl) ?_
  refine At.p (some 7) (P_assign rfl rfl) ?_
  refine At.p (some 8) (P_assign rfl rfl) ?_
  refine At.nil ?_
  refine At.next ?_
  refine At.seq ?_
  refine At.region ?_
  refine At.p (some 18) (P_fieldAddr0 (off := 1) rfl Try.underlying51 rfl sz31 rfl rfl) ?_
  refine At.q (some 19) (Q_loadM (k := 3) (f := u64V) (l := wv) (0#64) rfl rfl Try.underlying31 rfl rfl OG) ?_
  refine At.p (some 20) (P_move rfl rfl) ?_
  refine At.p (some 21) (P_add64 (c := 0#64) ext_add rfl rfl rfl rfl (by decide)) ?_
  refine At.p (some 17) (P_move rfl rfl) ?_
  refine At.p (some 22) (P_extract rfl rfl rfl) ?_
  refine At.p (some 23) (P_extract rfl rfl rfl) ?_
  refine At.p (some 9) (P_assign rfl rfl) ?_
  refine At.p (some 10) (P_assign rfl rfl) ?_
  refine At.nil ?_
  refine At.next ?_
  refine At.seq ?_
  refine At.region ?_
  refine At.p (some 24) (P_fieldAddr0 (off := 0) rfl Try.underlying51 rfl sz31 rfl rfl) ?_
  refine At.q (some 25) (Q_loadM (k := 3) (f := u64V) (l := wv) (0#64) rfl rfl Try.underlying31 rfl rfl OG) ?_
  refine At.p (some 26) (P_move rfl rfl) ?_
  refine At.p (some 27) (P_add_w UK.u64 rfl rfl rfl) ?_
  refine At.p (some 28) (P_move rfl rfl) ?_
  refine At.p (some 29) (P_add_w UK.u64 rfl rfl rfl) ?_
  refine At.p (some 30) (P_move rfl rfl) ?_
  refine At.p (some 31) (P_build_struct (parts := _) (vs := [(0, _), (1, _)]) rfl Try.underlying51 ze51 pl51 rfl rfl) ?_
  refine At.s (S_storeA none (k := 6) (vs := [u64V (((wv.getD 0 0#64) + (mulH a b)) + (cy (wv.getD 1 0#64) (a * b) 0#64)), u64V ((wv.getD 1 0#64) + (a * b) + 0#64)]) rfl rfl rfl (by rw [sz51]; exact congrArg some LN) rfl (one_cons rfl (one_cons rfl one_nil)) NG rfl LN ?_)
  refine At.nil ?_
  refine At.next ?_
  refine At.ret ?_
  have hq0 : [u64V (((wv.getD 0 0#64) + (mulH a b)) + (cy (wv.getD 1 0#64) (a * b) 0#64)), u64V ((wv.getD 1 0#64) + (a * b) + 0#64)] = (plusW wv a b).map u64V := (by rw [← plus_eq]; rfl)
  refine At.giveV (.inl rfl) [] (rows' := []) (ResV.cellA (k := 6) rfl rfl Try.underlying51 rfl sz51 LN rfl) rfl (by simp) (by simp) ?_
  exact ⟨congrArg (fun z => Value.agg (List.toArray z)) hq0, rfl⟩

set_option maxHeartbeats 2000000 in
theorem c_carried {a : List (BitVec 64)} (ha : a.length = 5) (hb : LtA a) :
    Con Try.prog 26 [.agg ((a).map u64V).toArray] [] (fun v rs => v = .agg ((carN (nv a)).map u64V).toArray ∧ rs = []) := by
  refine Con.enter Try.func26 Try.ntmps26 (Nat.le_of_ble_eq_true rfl) rfl fun w => ?_
  refine At.seq ?_
  refine At.region ?_
  refine At.s (S_box (some 1) 1 (zs := (a).map u64V) rfl rfl rfl (fun b1 => ?_))
  refine At.s (S_alloc (some 2) 2 (zs := (List.replicate 5 0#64).map u64V) rfl ze34 rfl (fun b2 => ?_))
  refine At.nil ?_
  refine At.next ?_
  refine At.seq ?_
  refine At.region ?_
  refine At.p (some 3) (P_assign rfl rfl) ?_
  refine At.nil ?_
  refine At.next ?_
  refine At.seq ?_
  refine At.seq ?_
  refine At.region ?_
  refine At.q (some 6) (Q_loadA (k := 1) rfl rfl Try.underlying34 rfl sz34 LN rfl) ?_
  refine At.p (some 7) (P_move rfl rfl) ?_
  refine At.nil ?_
  refine At.next ?_
  refine At.block ?_
  refine At.loopx (I := fun m fr H => ∃ (i : Nat), m = 5 - i ∧ fr = frOf [(0, .agg ((a).map u64V).toArray), (1, ptr b1 0), (2, ptr b2 0), (3, u64V (BitVec.ofNat 64 (ccy (a.map BitVec.toNat) i))), (6, .agg ((a).map u64V).toArray), (7, iV (i : Int))] ∧ H = hOf [(1, ⟨true, b1, 0, 34, ((cst (a.map BitVec.toNat) a i)).map u64V, 0⟩), (2, ⟨true, b2, 0, 34, (List.replicate 5 0#64).map u64V, 0⟩)] ∧ (i ≤ 5)) ?_ ?_
  · intro Kc0 hKc0
    refine At.to [(0, _), (1, _), (2, _), (3, u64V (BitVec.ofNat 64 (ccy (a.map BitVec.toNat) 0))), (6, _), (7, _)] [(1, ⟨true, b1, 0, 34, ((cst (a.map BitVec.toNat) a 0)).map u64V, 0⟩), (2, _)] (AllL.cons_ (rfl) (AllL.cons_ (rfl) (AllL.cons_ (rfl) (AllL.cons_ ((by rw [ccy_zero]; rfl)) (AllL.cons_ (rfl) (AllL.cons_ (rfl) trivial)))))) (AllL.cons_ ((by rw [cst_zero]; rfl)) (AllL.cons_ (rfl) trivial)) ?_
    exact hKc0 _ _ _ ⟨0, rfl, rfl, rfl, (by omega)⟩
  · rintro m fr H ⟨i, rfl, rfl, rfl, hi⟩ Kc0 hKc0
    have hcl : (cst (a.map BitVec.toNat) a i).length = 5 := (cst_len (by omega)).trans ha
    refine At.seq ?_
    refine At.region ?_
    refine At.p (some 8) (P_cmp rfl rfl rfl rfl rfl rfl) ?_
    refine At.nil ?_
    refine At.next ?_
    refine At.seq ?_
    refine At.cond rfl (fun h8 => ?_) (fun h8 => ?_)
    · -- cond 8 t
      have e8 : (i : Int) < 5 := of_decide_eq_true h8
      refine At.skip ?_
      refine At.next ?_
      refine At.seq ?_
      refine At.block ?_
      refine At.seq ?_
      refine At.region ?_
      refine At.p (some 9) (P_move rfl rfl) ?_
      refine At.p (some 10) (P_indexM (j := i) (l := a) (0#64) rfl Try.underlying34 sz31 Try.underlying31 rfl rfl RO OG LN) ?_
      refine At.p (some 4) (P_assign rfl rfl) ?_
      refine At.p (some 5) (P_assign rfl rfl) ?_
      refine At.nil ?_
      refine At.next ?_
      refine At.seq ?_
      refine At.region ?_
      refine At.p (some 11) (P_move rfl rfl) ?_
      refine At.p (some 12) (P_move rfl rfl) ?_
      refine At.p (some 13) (P_add_w UK.u64 rfl rfl rfl) ?_
      refine At.p (some 5) (P_assign rfl rfl) ?_
      refine At.nil ?_
      refine At.next ?_
      refine At.region ?_
      refine At.p (some 14) (P_move rfl rfl) ?_
      refine At.p (some 15) (P_move rfl rfl) ?_
      refine At.p (some 16) (P_and_w UK.u64 (b := 2251799813685247#64) rfl rfl rfl) ?_
      refine At.p (some 17) (P_move rfl rfl) ?_
      refine At.p (some 18) (P_shr_w UK.u64 (n := 64) rfl rfl rfl (by first | decide | omega)) ?_
      refine At.p (some 19) (P_indexAddr_arr1 (j := i) rfl Try.underlying34 sz31 rfl rfl RO OG) ?_
      refine At.s (S_storeM none (f := u64V) (l := (cst (a.map BitVec.toNat) a i)) (u := (((a.getD i 0#64) + (BitVec.ofNat 64 (ccy (a.map BitVec.toNat) i))) &&& 2251799813685247#64)) (k := 1) rfl rfl rfl sz31 rfl rfl rfl OG ?_)
      refine At.p (some 3) (P_assign rfl rfl) ?_
      refine At.nil ?_
      refine At.inb_n ?_
      refine At.next ?_
      refine At.region ?_
      refine At.p (some 20) (P_add_i rfl rfl rfl (by omega)) ?_
      refine At.p (some 7) (P_move rfl rfl) ?_
      refine At.nil ?_
      refine At.next ?_
      refine At.to [(0, _), (1, _), (2, _), (3, u64V (BitVec.ofNat 64 (ccy (a.map BitVec.toNat) (i + 1)))), (6, _), (7, _)] [(1, ⟨true, b1, 0, 34, ((cst (a.map BitVec.toNat) a (i + 1))).map u64V, 0⟩), (2, _)] (AllL.cons_ (rfl) (AllL.cons_ (rfl) (AllL.cons_ (rfl) (AllL.cons_ ((by rw [← car_hi hb (by omega)]; rfl)) (AllL.cons_ (rfl) (AllL.cons_ (rfl) trivial)))))) (AllL.cons_ ((by rw [← car_step hb (by omega)]; rfl)) (AllL.cons_ (rfl) trivial)) ?_
      exact hKc0 _ _ _ (by omega) ⟨i + 1, rfl, rfl, rfl, (by omega)⟩
    · -- cond 8 f
      have e8 : ¬ (i : Int) < 5 := of_decide_eq_false h8
      refine At.exit ?_
      refine At.thn_e ?_
      refine At.thn_e ?_
      refine At.inb_hit ?_
      refine At.next ?_
      refine At.seq ?_
      refine At.region ?_
      refine At.p (some 21) (P_indexAddr_arr1 (j := 0) rfl Try.underlying34 sz31 rfl rfl rfl (by decide)) ?_
      refine At.q (some 22) (Q_loadM (k := 1) (f := u64V) (l := (cst (a.map BitVec.toNat) a i)) (0#64) rfl rfl Try.underlying31 rfl rfl OG) ?_
      refine At.p (some 23) (P_move rfl rfl) ?_
      refine At.p (some 24) (P_mul_w UK.u64 (a := 19#64) rfl rfl rfl) ?_
      refine At.p (some 25) (P_add_w UK.u64 rfl rfl rfl) ?_
      refine At.p (some 26) (P_indexAddr_arr1 (j := 0) rfl Try.underlying34 sz31 rfl rfl rfl (by decide)) ?_
      refine At.s (S_storeM none (f := u64V) (l := (cst (a.map BitVec.toNat) a i)) (u := (((cst (a.map BitVec.toNat) a i).getD 0 0#64) + (19#64 * (BitVec.ofNat 64 (ccy (a.map BitVec.toNat) i))))) (k := 1) rfl rfl rfl sz31 rfl rfl rfl OG ?_)
      refine At.nil ?_
      refine At.next ?_
      refine At.seq ?_
      refine At.region ?_
      refine At.q (some 27) (Q_loadA (k := 1) rfl rfl Try.underlying34 rfl sz34 LN rfl) ?_
      refine At.s (S_storeA none (k := 2) (vs := (((cst (a.map BitVec.toNat) a i).set 0 (((cst (a.map BitVec.toNat) a i).getD 0 0#64) + (19#64 * (BitVec.ofNat 64 (ccy (a.map BitVec.toNat) i)))))).map u64V) rfl rfl rfl (by rw [sz34]; exact congrArg some LN) rfl (one_map (fun _ => rfl)) NG rfl LN ?_)
      refine At.nil ?_
      refine At.next ?_
      refine At.ret ?_
      have hq0 : (((cst (a.map BitVec.toNat) a i).set 0 (((cst (a.map BitVec.toNat) a i).getD 0 0#64) + (19#64 * (BitVec.ofNat 64 (ccy (a.map BitVec.toNat) i)))))).map u64V = (carN (nv a)).map u64V := (by rw [show i = 5 by omega]; exact congrArg (List.map u64V) (carN_end ((List.length_map _).trans ha) ha rfl))
      refine At.giveV (.inl rfl) [] (rows' := []) (ResV.cellA (k := 2) rfl rfl Try.underlying34 rfl sz34 LN rfl) rfl (by simp) (by simp) ?_
      exact ⟨congrArg (fun z => Value.agg (List.toArray z)) hq0, rfl⟩

set_option maxHeartbeats 2000000 in
theorem c_add {a : List (BitVec 64)} {b : List (BitVec 64)} (ha : a.length = 5) (hb : b.length = 5) (ba : Bnd a) (bb : Bnd b) :
    Con Try.prog 24 [.agg ((a).map u64V).toArray, .agg ((b).map u64V).toArray] [] (fun v rs => v = .agg ((addC a b).map u64V).toArray ∧ rs = []) := by
  refine Con.enter Try.func24 Try.ntmps24 (Nat.le_of_ble_eq_true rfl) rfl fun w => ?_
  refine At.seq ?_
  refine At.region ?_
  refine At.s (S_box (some 2) 2 (zs := (a).map u64V) rfl rfl rfl (fun b2 => ?_))
  refine At.s (S_box (some 3) 3 (zs := (b).map u64V) rfl rfl rfl (fun b3 => ?_))
  refine At.s (S_alloc (some 4) 4 (zs := (List.replicate 5 0#64).map u64V) rfl ze34 rfl (fun b4 => ?_))
  refine At.nil ?_
  refine At.next ?_
  refine At.seq ?_
  refine At.seq ?_
  refine At.region ?_
  refine At.q (some 7) (Q_loadA (k := 3) rfl rfl Try.underlying34 rfl sz34 LN rfl) ?_
  refine At.p (some 8) (P_move rfl rfl) ?_
  refine At.nil ?_
  refine At.next ?_
  refine At.block ?_
  refine At.loopx (I := fun m fr H => ∃ (i : Nat), m = 5 - i ∧ fr = frOf [(0, .agg ((a).map u64V).toArray), (1, .agg ((b).map u64V).toArray), (2, ptr b2 0), (3, ptr b3 0), (4, ptr b4 0), (7, .agg ((b).map u64V).toArray), (8, iV (i : Int))] ∧ H = hOf [(2, ⟨true, b2, 0, 34, (((zadd a b).take i ++ a.drop i)).map u64V, 0⟩), (3, ⟨true, b3, 0, 34, (b).map u64V, 0⟩), (4, ⟨true, b4, 0, 34, (List.replicate 5 0#64).map u64V, 0⟩)] ∧ (i ≤ 5)) ?_ ?_
  · intro Kc0 hKc0
    refine At.to [(0, _), (1, _), (2, _), (3, _), (4, _), (7, _), (8, _)] [(2, ⟨true, b2, 0, 34, (((zadd a b).take 0 ++ a.drop 0)).map u64V, 0⟩), (3, _), (4, _)] (AllL.cons_ (rfl) (AllL.cons_ (rfl) (AllL.cons_ (rfl) (AllL.cons_ (rfl) (AllL.cons_ (rfl) (AllL.cons_ (rfl) (AllL.cons_ (rfl) trivial))))))) (AllL.cons_ ((by rw [tk_zero]; rfl)) (AllL.cons_ (rfl) (AllL.cons_ (rfl) trivial))) ?_
    exact hKc0 _ _ _ ⟨0, rfl, rfl, rfl, (by omega)⟩
  · rintro m fr H ⟨i, rfl, rfl, rfl, hi⟩ Kc0 hKc0
    have hzl := zadd_len ha hb
    have htl := tk_len hzl ha hi
    refine At.seq ?_
    refine At.region ?_
    refine At.p (some 9) (P_cmp rfl rfl rfl rfl rfl rfl) ?_
    refine At.nil ?_
    refine At.next ?_
    refine At.seq ?_
    refine At.cond rfl (fun h9 => ?_) (fun h9 => ?_)
    · -- cond 9 t
      have e9 : (i : Int) < 5 := of_decide_eq_true h9
      refine At.skip ?_
      refine At.next ?_
      refine At.seq ?_
      refine At.block ?_
      refine At.seq ?_
      refine At.region ?_
      refine At.p (some 10) (P_move rfl rfl) ?_
      refine At.p (some 11) (P_indexM (j := i) (l := b) (0#64) rfl Try.underlying34 sz31 Try.underlying31 rfl rfl RO OG LN) ?_
      refine At.p (some 5) (P_assign rfl rfl) ?_
      refine At.p (some 6) (P_assign rfl rfl) ?_
      refine At.nil ?_
      refine At.next ?_
      refine At.region ?_
      refine At.p (some 12) (P_move rfl rfl) ?_
      refine At.p (some 13) (P_indexAddr_arr1 (j := i) rfl Try.underlying34 sz31 rfl rfl RO OG) ?_
      refine At.q (some 14) (Q_loadM (k := 2) (f := u64V) (l := ((zadd a b).take i ++ a.drop i)) (0#64) rfl rfl Try.underlying31 rfl rfl OG) ?_
      refine At.p (some 15) (P_move rfl rfl) ?_
      refine At.p (some 16) (P_add_w UK.u64 rfl rfl rfl) ?_
      refine At.p (some 17) (P_indexAddr_arr1 (j := i) rfl Try.underlying34 sz31 rfl rfl RO OG) ?_
      refine At.s (S_storeM none (f := u64V) (l := ((zadd a b).take i ++ a.drop i)) (u := ((((zadd a b).take i ++ a.drop i).getD i 0#64) + (b.getD i 0#64))) (k := 2) rfl rfl rfl sz31 rfl rfl rfl OG ?_)
      refine At.nil ?_
      refine At.inb_n ?_
      refine At.next ?_
      refine At.region ?_
      refine At.p (some 18) (P_add_i rfl rfl rfl (by omega)) ?_
      refine At.p (some 8) (P_move rfl rfl) ?_
      refine At.nil ?_
      refine At.next ?_
      refine At.to [(0, _), (1, _), (2, _), (3, _), (4, _), (7, _), (8, _)] [(2, ⟨true, b2, 0, 34, (((zadd a b).take (i + 1) ++ a.drop (i + 1))).map u64V, 0⟩), (3, _), (4, _)] (AllL.cons_ (rfl) (AllL.cons_ (rfl) (AllL.cons_ (rfl) (AllL.cons_ (rfl) (AllL.cons_ (rfl) (AllL.cons_ (rfl) (AllL.cons_ (rfl) trivial))))))) (AllL.cons_ ((by rw [← tk_set (d := 0#64) (n := 5) (zadd_len ha hb) ha (by omega) ((congrArg (· + b.getD i 0#64) (tk_get (zadd_len ha hb) (by omega))).trans (zadd_get ha hb (by omega)))]; rfl)) (AllL.cons_ (rfl) (AllL.cons_ (rfl) trivial))) ?_
      exact hKc0 _ _ _ (by omega) ⟨i + 1, rfl, rfl, rfl, (by omega)⟩
    · -- cond 9 f
      have e9 : ¬ (i : Int) < 5 := of_decide_eq_false h9
      refine At.exit ?_
      refine At.thn_e ?_
      refine At.thn_e ?_
      refine At.inb_hit ?_
      refine At.next ?_
      refine At.seq ?_
      obtain rfl : i = 5 := by omega
      rw [tk_all hzl ha]
      have hlt := zadd_lt ba bb
      refine At.region ?_
      refine At.q (some 19) (Q_loadA (k := 2) rfl rfl Try.underlying34 rfl sz34 LN rfl) ?_
      refine At.s (S_callV (some 20) [] [] (vs := [_]) rfl en26 rfl V0 (by simp) (c_carried (a := (zadd a b)) LN BD) (by rintro _ _ ⟨rfl, rfl⟩; rfl) ?_)
      rintro _ _ ⟨rfl, rfl⟩
      have := carN_len (nv (zadd a b))
      refine At.s (S_storeA none (k := 4) (vs := (carN (nv (zadd a b))).map u64V) rfl rfl rfl (by rw [sz34]; exact congrArg some LN) rfl (one_map (fun _ => rfl)) NG rfl LN ?_)
      refine At.nil ?_
      refine At.next ?_
      refine At.ret ?_
      refine At.giveV (.inl rfl) [] (rows' := []) (ResV.cellA (k := 4) rfl rfl Try.underlying34 rfl sz34 LN rfl) rfl (by simp) (by simp) ?_
      exact ⟨rfl, rfl⟩

set_option maxHeartbeats 2000000 in
theorem c_sub {a : List (BitVec 64)} {b : List (BitVec 64)} (ha : a.length = 5) (hb : b.length = 5) (ba : Bnd a) (bb : Bnd b) :
    Con Try.prog 25 [.agg ((a).map u64V).toArray, .agg ((b).map u64V).toArray] [] (fun v rs => v = .agg ((subC a b).map u64V).toArray ∧ rs = []) := by
  refine Con.enter Try.func25 Try.ntmps25 (Nat.le_of_ble_eq_true rfl) rfl fun w => ?_
  refine At.seq ?_
  refine At.region ?_
  refine At.s (S_box (some 2) 2 (zs := (a).map u64V) rfl rfl rfl (fun b2 => ?_))
  refine At.s (S_box (some 3) 3 (zs := (b).map u64V) rfl rfl rfl (fun b3 => ?_))
  refine At.s (S_alloc (some 4) 4 (zs := (List.replicate 5 0#64).map u64V) rfl ze34 rfl (fun b4 => ?_))
  refine At.nil ?_
  refine At.next ?_
  refine At.seq ?_
  refine At.seq ?_
  refine At.region ?_
  refine At.q (some 8) (Q_loadA (k := 3) rfl rfl Try.underlying34 rfl sz34 LN rfl) ?_
  refine At.p (some 9) (P_move rfl rfl) ?_
  refine At.nil ?_
  refine At.next ?_
  refine At.block ?_
  refine At.loopx (I := fun m fr H => ∃ (i : Nat), m = 5 - i ∧ fr = frOf [(0, .agg ((a).map u64V).toArray), (1, .agg ((b).map u64V).toArray), (2, ptr b2 0), (3, ptr b3 0), (4, ptr b4 0), (8, .agg ((b).map u64V).toArray), (9, iV (i : Int))] ∧ H = hOf [(2, ⟨true, b2, 0, 34, (((subC0 a b).take i ++ a.drop i)).map u64V, 0⟩), (3, ⟨true, b3, 0, 34, (b).map u64V, 0⟩), (4, ⟨true, b4, 0, 34, (List.replicate 5 0#64).map u64V, 0⟩)] ∧ (i ≤ 5)) ?_ ?_
  · intro Kc0 hKc0
    refine At.to [(0, _), (1, _), (2, _), (3, _), (4, _), (8, _), (9, _)] [(2, ⟨true, b2, 0, 34, (((subC0 a b).take 0 ++ a.drop 0)).map u64V, 0⟩), (3, _), (4, _)] (AllL.cons_ (rfl) (AllL.cons_ (rfl) (AllL.cons_ (rfl) (AllL.cons_ (rfl) (AllL.cons_ (rfl) (AllL.cons_ (rfl) (AllL.cons_ (rfl) trivial))))))) (AllL.cons_ ((by rw [tk_zero]; rfl)) (AllL.cons_ (rfl) (AllL.cons_ (rfl) trivial))) ?_
    exact hKc0 _ _ _ ⟨0, rfl, rfl, rfl, (by omega)⟩
  · rintro m fr H ⟨i, rfl, rfl, rfl, hi⟩ Kc0 hKc0
    have hzl := subC0_len (b := b) ha
    have htl := tk_len hzl ha hi
    refine At.seq ?_
    refine At.region ?_
    refine At.p (some 10) (P_cmp rfl rfl rfl rfl rfl rfl) ?_
    refine At.nil ?_
    refine At.next ?_
    refine At.seq ?_
    refine At.cond rfl (fun h10 => ?_) (fun h10 => ?_)
    · -- cond 10 t
      have e10 : (i : Int) < 5 := of_decide_eq_true h10
      refine At.skip ?_
      refine At.next ?_
      refine At.seq ?_
      refine At.block ?_
      refine At.seq ?_
      refine At.region ?_
      refine At.p (some 11) (P_move rfl rfl) ?_
      refine At.p (some 12) (P_indexM (j := i) (l := b) (0#64) rfl Try.underlying34 sz31 Try.underlying31 rfl rfl RO OG LN) ?_
      refine At.p (some 5) (P_assign rfl rfl) ?_
      refine At.p (some 6) (P_assign rfl rfl) ?_
      refine At.nil ?_
      refine At.next ?_
      refine At.seq ?_
      refine At.region ?_
      refine At.p (some 7) (P_assign rfl rfl) ?_
      refine At.nil ?_
      refine At.next ?_
      refine At.seq ?_
      refine At.seq ?_
      refine At.region ?_
      refine At.p (some 13) (P_move rfl rfl) ?_
      refine At.p (some 14) (P_cmp rfl rfl rfl rfl rfl rfl) ?_
      refine At.nil ?_
      refine At.next ?_
      refine At.cond rfl (fun h14 => ?_) (fun h14 => ?_)
      · -- cond 14 t
        have e14 : (i : Int) = 0 := eq_of_beq h14
        refine At.region ?_
        refine At.p (some 7) (P_assign rfl rfl) ?_
        refine At.nil ?_
        refine At.next ?_
        refine At.region ?_
        refine At.p (some 15) (P_move rfl rfl) ?_
        refine At.p (some 16) (P_indexAddr_arr1 (j := i) rfl Try.underlying34 sz31 rfl rfl RO OG) ?_
        refine At.q (some 17) (Q_loadM (k := 2) (f := u64V) (l := ((subC0 a b).take i ++ a.drop i)) (0#64) rfl rfl Try.underlying31 rfl rfl OG) ?_
        refine At.p (some 18) (P_move rfl rfl) ?_
        refine At.p (some 19) (P_move rfl rfl) ?_
        refine At.p (some 20) (P_sub_w (a := 36028797018963664#64) UK.u64 rfl rfl rfl) ?_
        refine At.p (some 21) (P_add_w UK.u64 rfl rfl rfl) ?_
        refine At.p (some 22) (P_indexAddr_arr1 (j := i) rfl Try.underlying34 sz31 rfl rfl RO OG) ?_
        refine At.s (S_storeM none (f := u64V) (l := ((subC0 a b).take i ++ a.drop i)) (u := ((((subC0 a b).take i ++ a.drop i).getD i 0#64) + (36028797018963664#64 - (b.getD i 0#64)))) (k := 2) rfl rfl rfl sz31 rfl rfl rfl OG ?_)
        refine At.nil ?_
        refine At.inb_n ?_
        refine At.next ?_
        refine At.region ?_
        refine At.p (some 23) (P_add_i rfl rfl rfl (by omega)) ?_
        refine At.p (some 9) (P_move rfl rfl) ?_
        refine At.nil ?_
        refine At.next ?_
        refine At.to [(0, _), (1, _), (2, _), (3, _), (4, _), (8, _), (9, _)] [(2, ⟨true, b2, 0, 34, (((subC0 a b).take (i + 1) ++ a.drop (i + 1))).map u64V, 0⟩), (3, _), (4, _)] (AllL.cons_ (rfl) (AllL.cons_ (rfl) (AllL.cons_ (rfl) (AllL.cons_ (rfl) (AllL.cons_ (rfl) (AllL.cons_ (rfl) (AllL.cons_ (rfl) trivial))))))) (AllL.cons_ ((by have hi0 : i = 0 := (by omega); rw [← tk_set (d := 0#64) (n := 5) (subC0_len ha) ha (by omega) (v := a.getD i 0#64 + (36028797018963664#64 - b.getD i 0#64)) (by subst hi0; exact subC0_get0 ha), ← tk_get (d := 0#64) (a := a) (s := subC0 a b) (n := 5) (subC0_len ha) (by omega)]; rfl)) (AllL.cons_ (rfl) (AllL.cons_ (rfl) trivial))) ?_
        exact hKc0 _ _ _ (by omega) ⟨i + 1, rfl, rfl, rfl, (by omega)⟩
      · -- cond 14 f
        have e14 : (i : Int) ≠ 0 := beq_eq_false_iff_ne.1 h14
        refine At.skip ?_
        refine At.next ?_
        refine At.region ?_
        refine At.p (some 15) (P_move rfl rfl) ?_
        refine At.p (some 16) (P_indexAddr_arr1 (j := i) rfl Try.underlying34 sz31 rfl rfl RO OG) ?_
        refine At.q (some 17) (Q_loadM (k := 2) (f := u64V) (l := ((subC0 a b).take i ++ a.drop i)) (0#64) rfl rfl Try.underlying31 rfl rfl OG) ?_
        refine At.p (some 18) (P_move rfl rfl) ?_
        refine At.p (some 19) (P_move rfl rfl) ?_
        refine At.p (some 20) (P_sub_w (a := 36028797018963952#64) UK.u64 rfl rfl rfl) ?_
        refine At.p (some 21) (P_add_w UK.u64 rfl rfl rfl) ?_
        refine At.p (some 22) (P_indexAddr_arr1 (j := i) rfl Try.underlying34 sz31 rfl rfl RO OG) ?_
        refine At.s (S_storeM none (f := u64V) (l := ((subC0 a b).take i ++ a.drop i)) (u := ((((subC0 a b).take i ++ a.drop i).getD i 0#64) + (36028797018963952#64 - (b.getD i 0#64)))) (k := 2) rfl rfl rfl sz31 rfl rfl rfl OG ?_)
        refine At.nil ?_
        refine At.inb_n ?_
        refine At.next ?_
        refine At.region ?_
        refine At.p (some 23) (P_add_i rfl rfl rfl (by omega)) ?_
        refine At.p (some 9) (P_move rfl rfl) ?_
        refine At.nil ?_
        refine At.next ?_
        refine At.to [(0, _), (1, _), (2, _), (3, _), (4, _), (8, _), (9, _)] [(2, ⟨true, b2, 0, 34, (((subC0 a b).take (i + 1) ++ a.drop (i + 1))).map u64V, 0⟩), (3, _), (4, _)] (AllL.cons_ (rfl) (AllL.cons_ (rfl) (AllL.cons_ (rfl) (AllL.cons_ (rfl) (AllL.cons_ (rfl) (AllL.cons_ (rfl) (AllL.cons_ (rfl) trivial))))))) (AllL.cons_ ((by rw [← tk_set (d := 0#64) (n := 5) (subC0_len ha) ha (by omega) (subC0_get ha (by omega) (by omega)), ← tk_get (d := 0#64) (a := a) (s := subC0 a b) (n := 5) (subC0_len ha) (by omega)]; rfl)) (AllL.cons_ (rfl) (AllL.cons_ (rfl) trivial))) ?_
        exact hKc0 _ _ _ (by omega) ⟨i + 1, rfl, rfl, rfl, (by omega)⟩
    · -- cond 10 f
      have e10 : ¬ (i : Int) < 5 := of_decide_eq_false h10
      refine At.exit ?_
      refine At.thn_e ?_
      refine At.thn_e ?_
      refine At.inb_hit ?_
      refine At.next ?_
      refine At.seq ?_
      obtain rfl : i = 5 := by omega
      rw [tk_all hzl ha]
      have hlt := subC0_lt ba bb
      refine At.region ?_
      refine At.q (some 24) (Q_loadA (k := 2) rfl rfl Try.underlying34 rfl sz34 LN rfl) ?_
      refine At.s (S_callV (some 25) [] [] (vs := [_]) rfl en26 rfl V0 (by simp) (c_carried (a := (subC0 a b)) LN BD) (by rintro _ _ ⟨rfl, rfl⟩; rfl) ?_)
      rintro _ _ ⟨rfl, rfl⟩
      have := carN_len (nv (subC0 a b))
      refine At.s (S_storeA none (k := 4) (vs := (carN (nv (subC0 a b))).map u64V) rfl rfl rfl (by rw [sz34]; exact congrArg some LN) rfl (one_map (fun _ => rfl)) NG rfl LN ?_)
      refine At.nil ?_
      refine At.next ?_
      refine At.ret ?_
      refine At.giveV (.inl rfl) [] (rows' := []) (ResV.cellA (k := 4) rfl rfl Try.underlying34 rfl sz34 LN rfl) rfl (by simp) (by simp) ?_
      exact ⟨rfl, rfl⟩

attribute [local irreducible] mT mR wcs cst ccy carN zadd subC0
set_option maxHeartbeats 2000000 in
theorem c_mulC {a : List (BitVec 64)} {b : List (BitVec 64)} (ha : a.length = 5) (hb : b.length = 5) (ba : Bnd a) (bb : Bnd b) :
    Con Try.prog 16 [.agg ((a).map u64V).toArray, .agg ((b).map u64V).toArray] [] (fun v rs => v = .agg ((mulC a b).map u64V).toArray ∧ rs = []) := by
  refine Con.enter Try.func16 Try.ntmps16 (Nat.le_of_ble_eq_true rfl) rfl fun w => ?_
  refine At.seq ?_
  refine At.region ?_
  refine At.s (S_box (some 2) 2 (zs := (a).map u64V) rfl rfl rfl (fun b2 => ?_))
  refine At.s (S_box (some 3) 3 (zs := (b).map u64V) rfl rfl rfl (fun b3 => ?_))
  refine At.s (S_alloc (some 4) 4 (zs := (List.replicate 5 0#64).map u64V) rfl ze34 rfl (fun b4 => ?_))
  refine At.nil ?_
  refine At.next ?_
  refine At.seq ?_
  refine At.region ?_
  refine At.s (S_alloc (some 5) 5 (zs := [u64V (0#64), u64V (0#64), u64V (0#64), u64V (0#64), u64V (0#64), u64V (0#64), u64V (0#64), u64V (0#64), u64V (0#64), u64V (0#64)]) rfl ze52 rfl (fun b5 => ?_))
  refine At.nil ?_
  refine At.next ?_
  refine At.seq ?_
  refine At.seq ?_
  refine At.region ?_
  refine At.q (some 18) (Q_loadA (k := 2) rfl rfl Try.underlying34 rfl sz34 LN rfl) ?_
  refine At.p (some 19) (P_move rfl rfl) ?_
  refine At.nil ?_
  refine At.next ?_
  refine At.block ?_
  refine At.loopx (I := fun m fr H => ∃ (i : Nat), m = 5 - i ∧ fr = frOf [(0, .agg ((a).map u64V).toArray), (1, .agg ((b).map u64V).toArray), (2, ptr b2 0), (3, ptr b3 0), (4, ptr b4 0), (5, ptr b5 0), (18, .agg ((a).map u64V).toArray), (19, iV (i : Int))] ∧ H = hOf [(2, ⟨true, b2, 0, 34, (a).map u64V, 0⟩), (3, ⟨true, b3, 0, 34, (b).map u64V, 0⟩), (4, ⟨true, b4, 0, 34, (List.replicate 5 0#64).map u64V, 0⟩), (5, ⟨true, b5, 0, 52, (wcs (mT a b i)).map u64V, 0⟩)] ∧ (i ≤ 5)) ?_ ?_
  · intro Kc0 hKc0
    refine At.to [(0, _), (1, _), (2, _), (3, _), (4, _), (5, _), (18, _), (19, _)] [(2, _), (3, _), (4, _), (5, ⟨true, b5, 0, 52, (wcs (mT a b 0)).map u64V, 0⟩)] (AllL.cons_ (rfl) (AllL.cons_ (rfl) (AllL.cons_ (rfl) (AllL.cons_ (rfl) (AllL.cons_ (rfl) (AllL.cons_ (rfl) (AllL.cons_ (rfl) (AllL.cons_ (rfl) trivial)))))))) (AllL.cons_ (rfl) (AllL.cons_ (rfl) (AllL.cons_ (rfl) (AllL.cons_ ((by rw [wcs_mT0]; rfl)) trivial)))) ?_
    exact hKc0 _ _ _ ⟨0, rfl, rfl, rfl, (by omega)⟩
  · rintro m fr H ⟨i, rfl, rfl, rfl, hi⟩ Kc0 hKc0
    have hwl := (wcs_len (mT a b i)).trans (by rw [mT_len])
    refine At.seq ?_
    refine At.region ?_
    refine At.p (some 20) (P_cmp rfl rfl rfl rfl rfl rfl) ?_
    refine At.nil ?_
    refine At.next ?_
    refine At.seq ?_
    refine At.cond rfl (fun h20 => ?_) (fun h20 => ?_)
    · -- cond 20 t
      have e20 : (i : Int) < 5 := of_decide_eq_true h20
      refine At.skip ?_
      refine At.next ?_
      refine At.seq ?_
      refine At.block ?_
      refine At.seq ?_
      refine At.region ?_
      refine At.p (some 21) (P_move rfl rfl) ?_
      refine At.p (some 22) (P_indexM (j := i) (l := a) (0#64) rfl Try.underlying34 sz31 Try.underlying31 rfl rfl RO OG LN) ?_
      refine At.p (some 6) (P_assign rfl rfl) ?_
      refine At.p (some 7) (P_assign rfl rfl) ?_
      refine At.nil ?_
      refine At.next ?_
      refine At.seq ?_
      refine At.region ?_
      refine At.q (some 23) (Q_loadA (k := 3) rfl rfl Try.underlying34 rfl sz34 LN rfl) ?_
      refine At.p (some 24) (P_move rfl rfl) ?_
      refine At.nil ?_
      refine At.next ?_
      refine At.block ?_
      refine At.loopx (I := fun m fr H => ∃ (j : Nat), m = 5 - j ∧ fr = frOf [(0, .agg ((a).map u64V).toArray), (1, .agg ((b).map u64V).toArray), (2, ptr b2 0), (3, ptr b3 0), (4, ptr b4 0), (5, ptr b5 0), (6, iV (i : Int)), (7, u64V (a.getD i 0#64)), (18, .agg ((a).map u64V).toArray), (19, iV (i : Int)), (20, .bool (decide ((i : Int) < 5))), (21, iV (i : Int)), (22, u64V (a.getD i 0#64)), (23, .agg ((b).map u64V).toArray), (24, iV (j : Int))] ∧ H = hOf [(2, ⟨true, b2, 0, 34, (a).map u64V, 0⟩), (3, ⟨true, b3, 0, 34, (b).map u64V, 0⟩), (4, ⟨true, b4, 0, 34, (List.replicate 5 0#64).map u64V, 0⟩), (5, ⟨true, b5, 0, 52, (wcs (mR a b i (mT a b i) j)).map u64V, 0⟩)] ∧ (j ≤ 5)) ?_ ?_
      · intro Kc1 hKc1
        refine At.to [(0, _), (1, _), (2, _), (3, _), (4, _), (5, _), (6, _), (7, _), (18, _), (19, _), (20, _), (21, _), (22, _), (23, _), (24, _)] [(2, _), (3, _), (4, _), (5, ⟨true, b5, 0, 52, (wcs (mR a b i (mT a b i) 0)).map u64V, 0⟩)] (AllL.cons_ (rfl) (AllL.cons_ (rfl) (AllL.cons_ (rfl) (AllL.cons_ (rfl) (AllL.cons_ (rfl) (AllL.cons_ (rfl) (AllL.cons_ (rfl) (AllL.cons_ (rfl) (AllL.cons_ (rfl) (AllL.cons_ (rfl) (AllL.cons_ (rfl) (AllL.cons_ (rfl) (AllL.cons_ (rfl) (AllL.cons_ (rfl) (AllL.cons_ (rfl) trivial))))))))))))))) (AllL.cons_ (rfl) (AllL.cons_ (rfl) (AllL.cons_ (rfl) (AllL.cons_ ((by rw [mR_zero]; rfl)) trivial)))) ?_
        exact hKc1 _ _ _ ⟨0, rfl, rfl, rfl, (by omega)⟩
      · rintro m fr H ⟨j, rfl, rfl, rfl, hj⟩ Kc1 hKc1
        have hwl := (wcs_len (mR a b i (mT a b i) j)).trans (by rw [mR_len, mT_len])
        refine At.seq ?_
        refine At.region ?_
        refine At.p (some 25) (P_cmp rfl rfl rfl rfl rfl rfl) ?_
        refine At.nil ?_
        refine At.next ?_
        refine At.seq ?_
        refine At.cond rfl (fun h25 => ?_) (fun h25 => ?_)
        · -- cond 25 t
          have e25 : (j : Int) < 5 := of_decide_eq_true h25
          refine At.skip ?_
          refine At.next ?_
          refine At.seq ?_
          refine At.block ?_
          refine At.seq ?_
          refine At.region ?_
          refine At.p (some 26) (P_move rfl rfl) ?_
          refine At.p (some 27) (P_indexM (j := j) (l := b) (0#64) rfl Try.underlying34 sz31 Try.underlying31 rfl rfl RO OG LN) ?_
          refine At.p (some 8) (P_assign rfl rfl) ?_
          refine At.p (some 9) (P_assign rfl rfl) ?_
          refine At.nil ?_
          refine At.next ?_
          refine At.seq ?_
          refine At.region ?_
          refine At.p (some 28) (P_move rfl rfl) ?_
          refine At.p (some 29) (P_move rfl rfl) ?_
          refine At.p (some 30) (P_add_i rfl rfl rfl (by omega)) ?_
          refine At.p (some 10) (P_assign rfl rfl) ?_
          refine At.nil ?_
          refine At.next ?_
          refine At.seq ?_
          refine At.seq ?_
          refine At.region ?_
          refine At.p (some 31) (P_move rfl rfl) ?_
          refine At.p (some 32) (P_cmp rfl rfl rfl rfl rfl rfl) ?_
          refine At.nil ?_
          refine At.next ?_
          refine At.cond rfl (fun h32 => ?_) (fun h32 => ?_)
          · -- cond 32 t
            have e32 : ((i : Int) + (j : Int)) ≥ 5 := of_decide_eq_true h32
            refine At.seq ?_
            refine At.region ?_
            refine At.p (some 33) (P_move rfl rfl) ?_
            refine At.p (some 34) (P_sub_i rfl rfl rfl (by omega)) ?_
            refine At.p (some 10) (P_assign rfl rfl) ?_
            refine At.nil ?_
            refine At.next ?_
            refine At.region ?_
            refine At.p (some 35) (P_move rfl rfl) ?_
            refine At.p (some 36) (P_mul_w UK.u64 (b := 19#64) rfl rfl rfl) ?_
            refine At.p (some 9) (P_assign rfl rfl) ?_
            refine At.nil ?_
            refine At.next ?_
            refine At.region ?_
            refine At.p (some 37) (P_move rfl rfl) ?_
            refine At.p (some 38) (P_move rfl rfl) ?_
            refine At.p (some 39) (P_indexAddr_arr (j := ((i + j) - 5)) rfl Try.underlying52 sz51 rfl rfl RO OG) ?_
            refine At.q (some 40) (Q_loadN (k := 5) (j := (0 + ((i + j) - 5) * 2)) (cs := (((wcs (mR a b i (mT a b i) j)).drop (0 + ((i + j) - 5) * 2)).take 2).map u64V) rfl rfl Try.underlying51 rfl sz51 rfl rfl (Nat.zero_add _) (by first | rw [← List.map_drop, ← List.map_take] | simp) LN) ?_
            refine At.p (some 41) (P_move rfl rfl) ?_
            refine At.p (some 42) (P_move rfl rfl) ?_
            refine At.s (S_callV (some 43) [] [] (vs := [_, _, _]) rfl en27 rfl V0 (by simp) (c_plus (wv := (((wcs (mR a b i (mT a b i) j)).drop (0 + ((i + j) - 5) * 2)).take 2)) (a := (a.getD i 0#64)) (b := ((b.getD j 0#64) * 19#64)) LN) (by rintro _ _ ⟨rfl, rfl⟩; rfl) ?_)
            rintro _ _ ⟨rfl, rfl⟩
            have : (plusW (((wcs (mR a b i (mT a b i) j)).drop (0 + ((i + j) - 5) * 2)).take 2) (a.getD i 0#64) ((b.getD j 0#64) * 19#64)).length = 2 := rfl
            refine At.p (some 44) (P_indexAddr_arr (j := ((i + j) - 5)) rfl Try.underlying52 sz51 rfl rfl RO OG) ?_
            refine At.s (S_storeN none (k := 5) (vs := (plusW (((wcs (mR a b i (mT a b i) j)).drop (0 + ((i + j) - 5) * 2)).take 2) (a.getD i 0#64) ((b.getD j 0#64) * 19#64)).map u64V) rfl rfl rfl (by rw [sz51]; exact congrArg some LN) rfl (one_map (fun _ => rfl)) NG rfl LN ?_)
            refine At.row 5 (⟨true, b5, 0, 52, ((splice (wcs (mR a b i (mT a b i) j)) (0 + ((i + j) - 5) * 2) (plusW (((wcs (mR a b i (mT a b i) j)).drop (0 + ((i + j) - 5) * 2)).take 2) (a.getD i 0#64) ((b.getD j 0#64) * 19#64)))).map u64V, 0⟩) rfl (splice_map _ _ _ _) ?_
            refine At.nil ?_
            refine At.inb_n ?_
            refine At.next ?_
            refine At.region ?_
            refine At.p (some 45) (P_add_i rfl rfl rfl (by omega)) ?_
            refine At.p (some 24) (P_move rfl rfl) ?_
            refine At.nil ?_
            refine At.next ?_
            refine At.to [(0, _), (1, _), (2, _), (3, _), (4, _), (5, _), (6, _), (7, _), (18, _), (19, _), (20, _), (21, _), (22, _), (23, _), (24, _)] [(2, _), (3, _), (4, _), (5, ⟨true, b5, 0, 52, (wcs (mR a b i (mT a b i) (j + 1))).map u64V, 0⟩)] (AllL.cons_ (rfl) (AllL.cons_ (rfl) (AllL.cons_ (rfl) (AllL.cons_ (rfl) (AllL.cons_ (rfl) (AllL.cons_ (rfl) (AllL.cons_ (rfl) (AllL.cons_ (rfl) (AllL.cons_ (rfl) (AllL.cons_ (rfl) (AllL.cons_ (rfl) (AllL.cons_ (rfl) (AllL.cons_ (rfl) (AllL.cons_ (rfl) (AllL.cons_ (rfl) trivial))))))))))))))) (AllL.cons_ (rfl) (AllL.cons_ (rfl) (AllL.cons_ (rfl) (AllL.cons_ ((by have hm : mIdx i j = i + j - 5 := (if_pos (by omega)); rw [← mul_step ba bb (by omega) (by omega), if_pos (show 5 ≤ i + j by omega), hm, Nat.zero_add]; rfl)) trivial)))) ?_
            exact hKc1 _ _ _ (by omega) ⟨j + 1, rfl, rfl, rfl, (by omega)⟩
          · -- cond 32 f
            have e32 : ¬ ((i : Int) + (j : Int)) ≥ 5 := of_decide_eq_false h32
            refine At.skip ?_
            refine At.next ?_
            refine At.region ?_
            refine At.p (some 37) (P_move rfl rfl) ?_
            refine At.p (some 38) (P_move rfl rfl) ?_
            refine At.p (some 39) (P_indexAddr_arr (j := (i + j)) rfl Try.underlying52 sz51 rfl rfl RO OG) ?_
            refine At.q (some 40) (Q_loadN (k := 5) (j := (0 + (i + j) * 2)) (cs := (((wcs (mR a b i (mT a b i) j)).drop (0 + (i + j) * 2)).take 2).map u64V) rfl rfl Try.underlying51 rfl sz51 rfl rfl (Nat.zero_add _) (by first | rw [← List.map_drop, ← List.map_take] | simp) LN) ?_
            refine At.p (some 41) (P_move rfl rfl) ?_
            refine At.p (some 42) (P_move rfl rfl) ?_
            refine At.s (S_callV (some 43) [] [] (vs := [_, _, _]) rfl en27 rfl V0 (by simp) (c_plus (wv := (((wcs (mR a b i (mT a b i) j)).drop (0 + (i + j) * 2)).take 2)) (a := (a.getD i 0#64)) (b := (b.getD j 0#64)) LN) (by rintro _ _ ⟨rfl, rfl⟩; rfl) ?_)
            rintro _ _ ⟨rfl, rfl⟩
            have : (plusW (((wcs (mR a b i (mT a b i) j)).drop (0 + (i + j) * 2)).take 2) (a.getD i 0#64) (b.getD j 0#64)).length = 2 := rfl
            refine At.p (some 44) (P_indexAddr_arr (j := (i + j)) rfl Try.underlying52 sz51 rfl rfl RO OG) ?_
            refine At.s (S_storeN none (k := 5) (vs := (plusW (((wcs (mR a b i (mT a b i) j)).drop (0 + (i + j) * 2)).take 2) (a.getD i 0#64) (b.getD j 0#64)).map u64V) rfl rfl rfl (by rw [sz51]; exact congrArg some LN) rfl (one_map (fun _ => rfl)) NG rfl LN ?_)
            refine At.row 5 (⟨true, b5, 0, 52, ((splice (wcs (mR a b i (mT a b i) j)) (0 + (i + j) * 2) (plusW (((wcs (mR a b i (mT a b i) j)).drop (0 + (i + j) * 2)).take 2) (a.getD i 0#64) (b.getD j 0#64)))).map u64V, 0⟩) rfl (splice_map _ _ _ _) ?_
            refine At.nil ?_
            refine At.inb_n ?_
            refine At.next ?_
            refine At.region ?_
            refine At.p (some 45) (P_add_i rfl rfl rfl (by omega)) ?_
            refine At.p (some 24) (P_move rfl rfl) ?_
            refine At.nil ?_
            refine At.next ?_
            refine At.to [(0, _), (1, _), (2, _), (3, _), (4, _), (5, _), (6, _), (7, _), (18, _), (19, _), (20, _), (21, _), (22, _), (23, _), (24, _)] [(2, _), (3, _), (4, _), (5, ⟨true, b5, 0, 52, (wcs (mR a b i (mT a b i) (j + 1))).map u64V, 0⟩)] (AllL.cons_ (rfl) (AllL.cons_ (rfl) (AllL.cons_ (rfl) (AllL.cons_ (rfl) (AllL.cons_ (rfl) (AllL.cons_ (rfl) (AllL.cons_ (rfl) (AllL.cons_ (rfl) (AllL.cons_ (rfl) (AllL.cons_ (rfl) (AllL.cons_ (rfl) (AllL.cons_ (rfl) (AllL.cons_ (rfl) (AllL.cons_ (rfl) (AllL.cons_ (rfl) trivial))))))))))))))) (AllL.cons_ (rfl) (AllL.cons_ (rfl) (AllL.cons_ (rfl) (AllL.cons_ ((by have hm : mIdx i j = i + j := (if_neg (by omega)); rw [← mul_step ba bb (by omega) (by omega), if_neg (show ¬ 5 ≤ i + j by omega), hm, Nat.zero_add]; rfl)) trivial)))) ?_
            exact hKc1 _ _ _ (by omega) ⟨j + 1, rfl, rfl, rfl, (by omega)⟩
        · -- cond 25 f
          have e25 : ¬ (j : Int) < 5 := of_decide_eq_false h25
          refine At.exit ?_
          refine At.thn_e ?_
          refine At.thn_e ?_
          refine At.inb_hit ?_
          refine At.inb_n ?_
          refine At.next ?_
          obtain rfl : j = 5 := by omega
          refine At.region ?_
          refine At.p (some 46) (P_add_i rfl rfl rfl (by omega)) ?_
          refine At.p (some 19) (P_move rfl rfl) ?_
          refine At.nil ?_
          refine At.next ?_
          refine At.to [(0, _), (1, _), (2, _), (3, _), (4, _), (5, _), (18, _), (19, _)] [(2, _), (3, _), (4, _), (5, ⟨true, b5, 0, 52, (wcs (mT a b (i + 1))).map u64V, 0⟩)] (AllL.cons_ (rfl) (AllL.cons_ (rfl) (AllL.cons_ (rfl) (AllL.cons_ (rfl) (AllL.cons_ (rfl) (AllL.cons_ (rfl) (AllL.cons_ (rfl) (AllL.cons_ (rfl) trivial)))))))) (AllL.cons_ (rfl) (AllL.cons_ (rfl) (AllL.cons_ (rfl) (AllL.cons_ ((by rw [mT_succ]; rfl)) trivial)))) ?_
          exact hKc0 _ _ _ (by omega) ⟨i + 1, rfl, rfl, rfl, (by omega)⟩
    · -- cond 20 f
      have e20 : ¬ (i : Int) < 5 := of_decide_eq_false h20
      refine At.exit ?_
      refine At.thn_e ?_
      refine At.thn_e ?_
      refine At.inb_hit ?_
      refine At.next ?_
      refine At.seq ?_
      obtain rfl : i = 5 := by omega
      have hwl := (wcs_len (mT a b 5)).trans (by rw [mT_len])
      refine At.region ?_
      refine At.s (S_alloc (some 11) 11 (zs := (List.replicate 5 0#64).map u64V) rfl ze34 rfl (fun b11 => ?_))
      refine At.nil ?_
      refine At.next ?_
      refine At.seq ?_
      refine At.region ?_
      refine At.p (some 12) (P_assign rfl rfl) ?_
      refine At.nil ?_
      refine At.next ?_
      refine At.seq ?_
      refine At.seq ?_
      refine At.region ?_
      refine At.q (some 47) (Q_loadA (k := 5) rfl rfl Try.underlying52 rfl sz52 LN rfl) ?_
      refine At.p (some 48) (P_move rfl rfl) ?_
      refine At.nil ?_
      refine At.next ?_
      refine At.block ?_
      refine At.loopx (I := fun m fr H => ∃ (i : Nat), m = 5 - i ∧ fr = frOf [(0, .agg ((a).map u64V).toArray), (1, .agg ((b).map u64V).toArray), (2, ptr b2 0), (3, ptr b3 0), (4, ptr b4 0), (5, ptr b5 0), (11, ptr b11 0), (12, u64V (BitVec.ofNat 64 (ccy (mT a b 5) i))), (18, .agg ((a).map u64V).toArray), (19, iV (5 : Int)), (20, .bool (decide ((5 : Int) < 5))), (47, .agg ((wcs (mT a b 5)).map u64V).toArray), (48, iV (i : Int))] ∧ H = hOf [(2, ⟨true, b2, 0, 34, (a).map u64V, 0⟩), (3, ⟨true, b3, 0, 34, (b).map u64V, 0⟩), (4, ⟨true, b4, 0, 34, (List.replicate 5 0#64).map u64V, 0⟩), (5, ⟨true, b5, 0, 52, (wcs (mT a b 5)).map u64V, 0⟩), (11, ⟨true, b11, 0, 34, ((cst (mT a b 5) (List.replicate 5 0#64) i)).map u64V, 0⟩)] ∧ (i ≤ 5)) ?_ ?_
      · intro Kc2 hKc2
        refine At.to [(0, _), (1, _), (2, _), (3, _), (4, _), (5, _), (11, _), (12, u64V (BitVec.ofNat 64 (ccy (mT a b 5) 0))), (18, _), (19, _), (20, _), (47, _), (48, _)] [(2, _), (3, _), (4, _), (5, _), (11, ⟨true, b11, 0, 34, ((cst (mT a b 5) (List.replicate 5 0#64) 0)).map u64V, 0⟩)] (AllL.cons_ (rfl) (AllL.cons_ (rfl) (AllL.cons_ (rfl) (AllL.cons_ (rfl) (AllL.cons_ (rfl) (AllL.cons_ (rfl) (AllL.cons_ (rfl) (AllL.cons_ ((by rw [ccy_zero]; rfl)) (AllL.cons_ (rfl) (AllL.cons_ (rfl) (AllL.cons_ (rfl) (AllL.cons_ (rfl) (AllL.cons_ (rfl) trivial))))))))))))) (AllL.cons_ (rfl) (AllL.cons_ (rfl) (AllL.cons_ (rfl) (AllL.cons_ (rfl) (AllL.cons_ ((by rw [cst_zero]; rfl)) trivial))))) ?_
        exact hKc2 _ _ _ ⟨0, rfl, rfl, rfl, (by omega)⟩
      · rintro m fr H ⟨i, rfl, rfl, rfl, hi⟩ Kc2 hKc2
        have hcl : (cst (mT a b 5) (List.replicate 5 0#64) i).length = 5 := (cst_len (by simp; omega)).trans rfl
        have hml := mT_len a b 5
        have hwl := (wcs_len (mT a b 5)).trans (by rw [mT_len])
        have hmx := mT_le ba bb 5
        have hgx := Nat.lt_of_le_of_lt (getD_le hmx i) (show 5 * 1926828912346908690274988872171520 < 20769187434139310514121985316880384 by decide)
        have hcx := ccy_lt (t := mT a b 5) hmx i (by omega)
        refine At.seq ?_
        refine At.region ?_
        refine At.p (some 49) (P_cmp rfl rfl rfl rfl rfl rfl) ?_
        refine At.nil ?_
        refine At.next ?_
        refine At.seq ?_
        refine At.cond rfl (fun h49 => ?_) (fun h49 => ?_)
        · -- cond 49 t
          have e49 : (i : Int) < 5 := of_decide_eq_true h49
          refine At.skip ?_
          refine At.next ?_
          refine At.seq ?_
          refine At.block ?_
          refine At.seq ?_
          refine At.region ?_
          refine At.p (some 50) (P_move rfl rfl) ?_
          refine At.p (some 51) (P_indexN (j := i) (n := 2) (cs := (wcs (mT a b 5)).map u64V) (xs := ((((wcs (mT a b 5)).drop (i * 2)).take 2)).map u64V) rfl Try.underlying52 Try.underlying51 sz51 rfl rfl RO OG (by rw [← List.map_drop, ← List.map_take]) LN (by decide)) ?_
          refine At.s (S_alloc (some 14) 14 (zs := [u64V (0#64), u64V (0#64)]) rfl ze51 rfl (fun b14 => ?_))
          refine At.p (some 13) (P_assign rfl rfl) ?_
          refine At.s (S_storeA none (k := 14) (vs := ((((wcs (mT a b 5)).drop (i * 2)).take 2)).map u64V) rfl rfl rfl (by rw [sz51]; exact congrArg some LN) rfl (one_map (fun _ => rfl)) NG rfl LN ?_)
          refine At.nil ?_
          refine At.next ?_
          refine At.seq ?_
          refine At.region ?_
          refine At.p (some 53) (P_fieldAddr0 (off := 1) rfl Try.underlying51 rfl sz31 rfl rfl) ?_
          refine At.q (some 54) (Q_loadM (k := 14) (f := u64V) (l := (((wcs (mT a b 5)).drop (i * 2)).take 2)) (0#64) rfl rfl Try.underlying31 rfl rfl OG) ?_
          refine At.p (some 55) (P_move rfl rfl) ?_
          refine At.p (some 56) (P_add64 (c := 0#64) ext_add rfl rfl rfl rfl (by decide)) ?_
          refine At.p (some 52) (P_move rfl rfl) ?_
          refine At.p (some 57) (P_extract rfl rfl rfl) ?_
          refine At.p (some 58) (P_extract rfl rfl rfl) ?_
          refine At.p (some 15) (P_assign rfl rfl) ?_
          refine At.p (some 16) (P_assign rfl rfl) ?_
          refine At.nil ?_
          refine At.next ?_
          refine At.seq ?_
          refine At.region ?_
          refine At.p (some 59) (P_fieldAddr0 (off := 0) rfl Try.underlying51 rfl sz31 rfl rfl) ?_
          refine At.q (some 60) (Q_loadM (k := 14) (f := u64V) (l := (((wcs (mT a b 5)).drop (i * 2)).take 2)) (0#64) rfl rfl Try.underlying31 rfl rfl OG) ?_
          refine At.p (some 61) (P_move rfl rfl) ?_
          refine At.p (some 62) (P_add_w UK.u64 rfl rfl rfl) ?_
          refine At.p (some 17) (P_assign rfl rfl) ?_
          refine At.nil ?_
          refine At.next ?_
          refine At.region ?_
          refine At.p (some 63) (P_move rfl rfl) ?_
          refine At.p (some 64) (P_move rfl rfl) ?_
          refine At.p (some 65) (P_and_w UK.u64 (b := 2251799813685247#64) rfl rfl rfl) ?_
          refine At.p (some 66) (P_move rfl rfl) ?_
          refine At.p (some 67) (P_shl_w UK.u64 (n := 64) rfl rfl rfl (by first | decide | omega)) ?_
          refine At.p (some 68) (P_move rfl rfl) ?_
          refine At.p (some 69) (P_shr_w UK.u64 (n := 64) rfl rfl rfl (by first | decide | omega)) ?_
          refine At.p (some 70) (P_or_w UK.u64 rfl rfl rfl) ?_
          refine At.p (some 71) (P_indexAddr_arr1 (j := i) rfl Try.underlying34 sz31 rfl rfl RO OG) ?_
          refine At.s (S_storeM none (f := u64V) (l := (cst (mT a b 5) (List.replicate 5 0#64) i)) (u := ((((((wcs (mT a b 5)).drop (i * 2)).take 2).getD 1 0#64) + (BitVec.ofNat 64 (ccy (mT a b 5) i)) + 0#64) &&& 2251799813685247#64)) (k := 11) rfl rfl rfl sz31 rfl rfl rfl OG ?_)
          refine At.p (some 12) (P_assign rfl rfl) ?_
          refine At.nil ?_
          refine At.inb_n ?_
          refine At.next ?_
          refine At.region ?_
          refine At.p (some 72) (P_add_i rfl rfl rfl (by omega)) ?_
          refine At.p (some 48) (P_move rfl rfl) ?_
          refine At.nil ?_
          refine At.next ?_
          have hwd : ((wcs (mT a b 5)).drop (i * 2)).take 2 = wd ((mT a b 5).getD i 0) := wcs_at _ _ (by omega)
          refine At.to [(0, _), (1, _), (2, _), (3, _), (4, _), (5, _), (11, _), (12, u64V (BitVec.ofNat 64 (ccy (mT a b 5) (i + 1)))), (18, _), (19, _), (20, _), (47, _), (48, _)] [(2, _), (3, _), (4, _), (5, _), (11, ⟨true, b11, 0, 34, ((cst (mT a b 5) (List.replicate 5 0#64) (i + 1))).map u64V, 0⟩)] (AllL.cons_ (rfl) (AllL.cons_ (rfl) (AllL.cons_ (rfl) (AllL.cons_ (rfl) (AllL.cons_ (rfl) (AllL.cons_ (rfl) (AllL.cons_ (rfl) (AllL.cons_ ((by rw [ccy_succ (by rw [mT_len]; omega), ← cy2_hiX hgx hcx, ← hwd]; rfl)) (AllL.cons_ (rfl) (AllL.cons_ (rfl) (AllL.cons_ (rfl) (AllL.cons_ (rfl) (AllL.cons_ (rfl) trivial))))))))))))) (AllL.cons_ (rfl) (AllL.cons_ (rfl) (AllL.cons_ (rfl) (AllL.cons_ (rfl) (AllL.cons_ ((by rw [← cst_succ (by rw [mT_len]; omega) (by simp; omega) (cy2_loX hcx), ← hwd]; rfl)) trivial))))) ?_
          exact hKc2 _ _ _ (by omega) ⟨i + 1, rfl, rfl, rfl, (by omega)⟩
        · -- cond 49 f
          have e49 : ¬ (i : Int) < 5 := of_decide_eq_false h49
          refine At.exit ?_
          refine At.thn_e ?_
          refine At.thn_e ?_
          refine At.inb_hit ?_
          refine At.next ?_
          refine At.seq ?_
          obtain rfl : i = 5 := by omega
          refine At.region ?_
          refine At.p (some 73) (P_indexAddr_arr1 (j := 0) rfl Try.underlying34 sz31 rfl rfl rfl (by decide)) ?_
          refine At.q (some 74) (Q_loadM (k := 11) (f := u64V) (l := (cst (mT a b 5) (List.replicate 5 0#64) 5)) (0#64) rfl rfl Try.underlying31 rfl rfl OG) ?_
          refine At.p (some 75) (P_move rfl rfl) ?_
          refine At.p (some 76) (P_mul_w UK.u64 (a := 19#64) rfl rfl rfl) ?_
          refine At.p (some 77) (P_add_w UK.u64 rfl rfl rfl) ?_
          have hve := carN_end (t := mT a b 5) (mT_len a b 5) (a := List.replicate 5 0#64) (by simp) rfl
          have hlt := mul_lt ba bb
          have hlc := carN_len (valN (mT a b 5))
          refine At.p (some 78) (P_indexAddr_arr1 (j := 0) rfl Try.underlying34 sz31 rfl rfl rfl (by decide)) ?_
          refine At.s (S_storeM none (f := u64V) (l := (cst (mT a b 5) (List.replicate 5 0#64) 5)) (u := (((cst (mT a b 5) (List.replicate 5 0#64) 5).getD 0 0#64) + (19#64 * (BitVec.ofNat 64 (ccy (mT a b 5) 5))))) (k := 11) rfl rfl rfl sz31 rfl rfl rfl OG ?_)
          refine At.nil ?_
          refine At.next ?_
          refine At.seq ?_
          refine At.region ?_
          refine At.q (some 79) (Q_loadA (k := 11) rfl rfl Try.underlying34 rfl sz34 LN rfl) ?_
          simp only [hve]
          refine At.s (S_callV (some 80) [] [] (vs := [_]) rfl en26 rfl V0 (by simp) (c_carried (a := (carN (valN (mT a b 5)))) LN BD) (by rintro _ _ ⟨rfl, rfl⟩; rfl) ?_)
          rintro _ _ ⟨rfl, rfl⟩
          have := carN_len (nv (carN (valN (mT a b 5))))
          refine At.s (S_storeA none (k := 4) (vs := (carN (nv (carN (valN (mT a b 5))))).map u64V) rfl rfl rfl (by rw [sz34]; exact congrArg some LN) rfl (one_map (fun _ => rfl)) NG rfl LN ?_)
          refine At.nil ?_
          refine At.next ?_
          refine At.ret ?_
          have hq0 : (carN (nv (carN (valN (mT a b 5))))).map u64V = (mulC a b).map u64V := rfl
          refine At.giveV (.inl rfl) [] (rows' := []) (ResV.cellA (k := 4) rfl rfl Try.underlying34 rfl sz34 LN rfl) rfl (by simp) (by simp) ?_
          exact ⟨congrArg (fun z => Value.agg (List.toArray z)) hq0, rfl⟩

set_option maxHeartbeats 2000000 in
theorem c_inv {a : List (BitVec 64)} (ha : a.length = 5) (ba : Bnd a) :
    Con Try.prog 17 [.agg ((a).map u64V).toArray] [] (fun v rs => v = .agg ((invG mulC a 254).map u64V).toArray ∧ rs = []) := by
  refine Con.enter Try.func17 Try.ntmps17 (Nat.le_of_ble_eq_true rfl) rfl fun w => ?_
  refine At.seq ?_
  refine At.region ?_
  refine At.s (S_box (some 1) 1 (zs := (a).map u64V) rfl rfl rfl (fun b1 => ?_))
  refine At.s (S_alloc (some 2) 2 (zs := (List.replicate 5 0#64).map u64V) rfl ze34 rfl (fun b2 => ?_))
  refine At.nil ?_
  refine At.next ?_
  refine At.seq ?_
  refine At.region ?_
  refine At.q (some 5) (Q_loadA (k := 1) rfl rfl Try.underlying34 rfl sz34 LN rfl) ?_
  refine At.s (S_alloc (some 3) 3 (zs := (List.replicate 5 0#64).map u64V) rfl ze34 rfl (fun b3 => ?_))
  refine At.s (S_storeA none (k := 3) (vs := (a).map u64V) rfl rfl rfl (by rw [sz34]; exact congrArg some LN) rfl (one_map (fun _ => rfl)) NG rfl LN ?_)
  refine At.nil ?_
  refine At.next ?_
  refine At.seq ?_
  refine At.seq ?_
  refine At.region ?_
  refine At.p (some 4) (P_assign rfl rfl) ?_
  refine At.nil ?_
  refine At.next ?_
  refine At.block ?_
  refine At.loopx (I := fun m fr H => ∃ (n : Nat), m = 254 - n ∧ fr = frOf [(0, .agg ((a).map u64V).toArray), (1, ptr b1 0), (2, ptr b2 0), (3, ptr b3 0), (4, iV (253 - (n : Int))), (5, .agg ((a).map u64V).toArray)] ∧ H = hOf [(1, ⟨true, b1, 0, 34, (a).map u64V, 0⟩), (2, ⟨true, b2, 0, 34, (List.replicate 5 0#64).map u64V, 0⟩), (3, ⟨true, b3, 0, 34, ((invG mulC a n)).map u64V, 0⟩)] ∧ (n ≤ 254)) ?_ ?_
  · intro Kc0 hKc0
    refine At.to [(0, _), (1, _), (2, _), (3, _), (4, iV (253 - (0 : Int))), (5, _)] [(1, _), (2, _), (3, ⟨true, b3, 0, 34, ((invG mulC a 0)).map u64V, 0⟩)] (AllL.cons_ (rfl) (AllL.cons_ (rfl) (AllL.cons_ (rfl) (AllL.cons_ (rfl) (AllL.cons_ (rfl) (AllL.cons_ (rfl) trivial)))))) (AllL.cons_ (rfl) (AllL.cons_ (rfl) (AllL.cons_ (rfl) trivial))) ?_
    exact hKc0 _ _ _ ⟨0, rfl, rfl, rfl, (by omega)⟩
  · rintro m fr H ⟨n, rfl, rfl, rfl, hn⟩ Kc0 hKc0
    have hbi : Bnd (invG mulC a n) := (inv_rel homC ⟨ba, rfl⟩ n).1
    have hbm := bnd_mul hbi hbi
    have hil := hbi.1
    refine At.seq ?_
    refine At.seq ?_
    refine At.region ?_
    refine At.p (some 6) (P_move rfl rfl) ?_
    refine At.p (some 7) (P_cmp rfl rfl rfl rfl rfl rfl) ?_
    refine At.nil ?_
    refine At.next ?_
    refine At.cond rfl (fun h7 => ?_) (fun h7 => ?_)
    · -- cond 7 t
      have e7 : (253 - (n : Int)) ≥ 0 := of_decide_eq_true h7
      refine At.skip ?_
      refine At.next ?_
      refine At.seq ?_
      refine At.block ?_
      refine At.seq ?_
      refine At.region ?_
      refine At.q (some 10) (Q_loadA (k := 3) rfl rfl Try.underlying34 rfl sz34 LN rfl) ?_
      refine At.q (some 11) (Q_loadA (k := 3) rfl rfl Try.underlying34 rfl sz34 LN rfl) ?_
      refine At.s (S_callV (some 12) [] [] (vs := [_, _]) rfl en16 rfl V0 (by simp) (c_mulC (a := (invG mulC a n)) (b := (invG mulC a n)) LN LN BD BD) (by rintro _ _ ⟨rfl, rfl⟩; rfl) ?_)
      rintro _ _ ⟨rfl, rfl⟩
      have := mulC_len (invG mulC a n) (invG mulC a n)
      refine At.s (S_storeA none (k := 3) (vs := (mulC (invG mulC a n) (invG mulC a n)).map u64V) rfl rfl rfl (by rw [sz34]; exact congrArg some LN) rfl (one_map (fun _ => rfl)) NG rfl LN ?_)
      refine At.nil ?_
      refine At.next ?_
      refine At.seq ?_
      refine At.region ?_
      refine At.p (some 13) (P_move rfl rfl) ?_
      refine At.p (some 14) (P_cmp rfl rfl rfl rfl rfl rfl) ?_
      refine At.p (some 15) (P_move rfl rfl) ?_
      refine At.gsplit (t := 15) (want := true) rfl (fun g1 => ?_) (fun g1 => ?_)
      ·
        have eg1 : (253 - (n : Int)) ≠ 2 := bne_iff_ne.1 g1
        refine At.gy (t := 15) rfl g1 rfl rfl ?_
        refine At.p (some 16) (P_move rfl rfl) ?_
        refine At.gy (t := 15) rfl g1 rfl rfl ?_
        refine At.p (some 17) (P_cmp rfl rfl rfl rfl rfl rfl) ?_
        refine At.p (some 18) (P_pick_t rfl rfl g1 rfl) ?_
        refine At.nil ?_
        refine At.next ?_
        refine At.cond rfl (fun h18 => ?_) (fun h18 => ?_)
        · -- cond 18 t
          have e18 : (253 - (n : Int)) ≠ 4 := bne_iff_ne.1 h18
          refine At.region ?_
          refine At.q (some 19) (Q_loadA (k := 3) rfl rfl Try.underlying34 rfl sz34 LN rfl) ?_
          refine At.q (some 20) (Q_loadA (k := 1) rfl rfl Try.underlying34 rfl sz34 LN rfl) ?_
          refine At.s (S_callV (some 21) [] [] (vs := [_, _]) rfl en16 rfl V0 (by simp) (c_mulC (a := (mulC (invG mulC a n) (invG mulC a n))) (b := a) LN LN BD BD) (by rintro _ _ ⟨rfl, rfl⟩; rfl) ?_)
          rintro _ _ ⟨rfl, rfl⟩
          have := mulC_len (mulC (invG mulC a n) (invG mulC a n)) a
          refine At.s (S_storeA none (k := 3) (vs := (mulC (mulC (invG mulC a n) (invG mulC a n)) a).map u64V) rfl rfl rfl (by rw [sz34]; exact congrArg some LN) rfl (one_map (fun _ => rfl)) NG rfl LN ?_)
          refine At.nil ?_
          refine At.inb_n ?_
          refine At.next ?_
          refine At.region ?_
          refine At.p (some 8) (P_move rfl rfl) ?_
          refine At.p (some 9) (P_sub_i rfl rfl rfl (by omega)) ?_
          refine At.p (some 4) (P_assign rfl rfl) ?_
          refine At.nil ?_
          refine At.next ?_
          refine At.to [(0, _), (1, _), (2, _), (3, _), (4, iV (253 - ((n + 1) : Int))), (5, _)] [(1, _), (2, _), (3, ⟨true, b3, 0, 34, ((invG mulC a (n + 1))).map u64V, 0⟩)] (AllL.cons_ (rfl) (AllL.cons_ (rfl) (AllL.cons_ (rfl) (AllL.cons_ (rfl) (AllL.cons_ ((congrArg (fun z : Int => some (iV z)) (show (253 - (n : Int) - 1) = 253 - ((n : Int) + 1) by omega))) (AllL.cons_ (rfl) trivial)))))) (AllL.cons_ (rfl) (AllL.cons_ (rfl) (AllL.cons_ ((by rw [invG_f (by omega)]; rfl)) trivial))) ?_
          exact hKc0 _ _ _ (by omega) ⟨n + 1, rfl, rfl, rfl, (by omega)⟩
        · -- cond 18 f
          have e18 : (253 - (n : Int)) = 4 := bne_eq_false_iff_eq.1 h18
          refine At.skip ?_
          refine At.inb_n ?_
          refine At.next ?_
          refine At.region ?_
          refine At.p (some 8) (P_move rfl rfl) ?_
          refine At.p (some 9) (P_sub_i rfl rfl rfl (by omega)) ?_
          refine At.p (some 4) (P_assign rfl rfl) ?_
          refine At.nil ?_
          refine At.next ?_
          refine At.to [(0, _), (1, _), (2, _), (3, _), (4, iV (253 - ((n + 1) : Int))), (5, _)] [(1, _), (2, _), (3, ⟨true, b3, 0, 34, ((invG mulC a (n + 1))).map u64V, 0⟩)] (AllL.cons_ (rfl) (AllL.cons_ (rfl) (AllL.cons_ (rfl) (AllL.cons_ (rfl) (AllL.cons_ ((congrArg (fun z : Int => some (iV z)) (show (253 - (n : Int) - 1) = 253 - ((n : Int) + 1) by omega))) (AllL.cons_ (rfl) trivial)))))) (AllL.cons_ (rfl) (AllL.cons_ (rfl) (AllL.cons_ ((by rw [invG_t (by omega)]; rfl)) trivial))) ?_
          exact hKc0 _ _ _ (by omega) ⟨n + 1, rfl, rfl, rfl, (by omega)⟩
      ·
        have eg1 : (253 - (n : Int)) = 2 := bne_eq_false_iff_eq.1 g1
        refine At.gn (some 16) (t := 15) rfl g1 rfl rfl ?_
        refine At.gn (some 17) (t := 15) rfl g1 rfl rfl ?_
        refine At.p (some 18) (P_pick_f rfl rfl g1 rfl) ?_
        refine At.nil ?_
        refine At.next ?_
        refine At.cond rfl (fun h => absurd (h.symm.trans rfl) (by decide)) (fun _ => ?_)
        refine At.skip ?_
        refine At.inb_n ?_
        refine At.next ?_
        refine At.region ?_
        refine At.p (some 8) (P_move rfl rfl) ?_
        refine At.p (some 9) (P_sub_i rfl rfl rfl (by omega)) ?_
        refine At.p (some 4) (P_assign rfl rfl) ?_
        refine At.nil ?_
        refine At.next ?_
        refine At.to [(0, _), (1, _), (2, _), (3, _), (4, iV (253 - ((n + 1) : Int))), (5, _)] [(1, _), (2, _), (3, ⟨true, b3, 0, 34, ((invG mulC a (n + 1))).map u64V, 0⟩)] (AllL.cons_ (rfl) (AllL.cons_ (rfl) (AllL.cons_ (rfl) (AllL.cons_ (rfl) (AllL.cons_ ((congrArg (fun z : Int => some (iV z)) (show (253 - (n : Int) - 1) = 253 - ((n : Int) + 1) by omega))) (AllL.cons_ (rfl) trivial)))))) (AllL.cons_ (rfl) (AllL.cons_ (rfl) (AllL.cons_ ((by rw [invG_t (by omega)]; rfl)) trivial))) ?_
        exact hKc0 _ _ _ (by omega) ⟨n + 1, rfl, rfl, rfl, (by omega)⟩
    · -- cond 7 f
      have e7 : ¬ (253 - (n : Int)) ≥ 0 := of_decide_eq_false h7
      refine At.exit ?_
      refine At.thn_e ?_
      refine At.thn_e ?_
      refine At.inb_hit ?_
      refine At.next ?_
      refine At.seq ?_
      obtain rfl : n = 254 := by omega
      have hil := (inv_rel homC (x := nv a % pN) ⟨ba, rfl⟩ 254).1.1
      refine At.region ?_
      refine At.q (some 22) (Q_loadA (k := 3) rfl rfl Try.underlying34 rfl sz34 LN rfl) ?_
      refine At.s (S_storeA none (k := 2) (vs := ((invG mulC a 254)).map u64V) rfl rfl rfl (by rw [sz34]; exact congrArg some LN) rfl (one_map (fun _ => rfl)) NG rfl LN ?_)
      refine At.nil ?_
      refine At.next ?_
      refine At.ret ?_
      have hq0 : ((invG mulC a 254)).map u64V = (invG mulC a 254).map u64V := rfl
      refine At.giveV (.inl rfl) [] (rows' := []) (ResV.cellA (k := 2) rfl rfl Try.underlying34 rfl sz34 LN rfl) rfl (by simp) (by simp) ?_
      exact ⟨congrArg (fun z => Value.agg (List.toArray z)) hq0, rfl⟩

set_option maxHeartbeats 2000000 in
theorem c_unp {b : List (BitVec 8)} (hb : b.length = 32) :
    Con Try.prog 12 [aggK b] [] (fun v rs => v = .agg ((dgs (leN b % 57896044618658097711785492504343953926634992332820282019728792003956564819968) 5).map u64V).toArray ∧ rs = []) := by
  refine Con.enter Try.func12 Try.ntmps12 (Nat.le_of_ble_eq_true rfl) rfl fun w => ?_
  refine At.seq ?_
  refine At.region ?_
  refine At.s (S_box (some 1) 1 (zs := (b).map u8V) rfl rfl rfl (fun b1 => ?_))
  refine At.s (S_alloc (some 2) 2 (zs := (List.replicate 5 0#64).map u64V) rfl ze34 rfl (fun b2 => ?_))
  refine At.nil ?_
  refine At.next ?_
  refine At.seq ?_
  refine At.region ?_
  refine At.s (S_alloc (some 3) 3 (zs := (List.replicate 5 0#64).map u64V) rfl ze34 rfl (fun b3 => ?_))
  refine At.nil ?_
  refine At.next ?_
  refine At.seq ?_
  refine At.seq ?_
  refine At.region ?_
  refine At.p (some 6) (P_move rfl rfl) ?_
  refine At.nil ?_
  refine At.next ?_
  refine At.block ?_
  refine At.loopx (I := fun m fr H => ∃ (i : Nat), m = 255 - i ∧ fr = frOf [(0, aggK b), (1, ptr b1 0), (2, ptr b2 0), (3, ptr b3 0), (6, iV (i : Int))] ∧ H = hOf [(1, ⟨true, b1, 0, 22, (b).map u8V, 0⟩), (2, ⟨true, b2, 0, 34, (List.replicate 5 0#64).map u64V, 0⟩), (3, ⟨true, b3, 0, 34, ((dgs (leN b % 2 ^ i) 5)).map u64V, 0⟩)] ∧ (i ≤ 255)) ?_ ?_
  · intro Kc0 hKc0
    refine At.to [(0, _), (1, _), (2, _), (3, _), (6, _)] [(1, _), (2, _), (3, ⟨true, b3, 0, 34, ((dgs (leN b % 2 ^ 0) 5)).map u64V, 0⟩)] (AllL.cons_ (rfl) (AllL.cons_ (rfl) (AllL.cons_ (rfl) (AllL.cons_ (rfl) (AllL.cons_ (rfl) trivial))))) (AllL.cons_ (rfl) (AllL.cons_ (rfl) (AllL.cons_ ((by rw [Nat.pow_zero, Nat.mod_one]; rfl)) trivial))) ?_
    exact hKc0 _ _ _ ⟨0, rfl, rfl, rfl, (by omega)⟩
  · rintro m fr H ⟨i, rfl, rfl, rfl, hi⟩ Kc0 hKc0
    have hdl := dgs_len (leN b % 2 ^ i) 5
    refine At.seq ?_
    refine At.region ?_
    refine At.p (some 7) (P_cmp rfl rfl rfl rfl rfl rfl) ?_
    refine At.nil ?_
    refine At.next ?_
    refine At.seq ?_
    refine At.cond rfl (fun h7 => ?_) (fun h7 => ?_)
    · -- cond 7 t
      have e7 : (i : Int) < 255 := of_decide_eq_true h7
      refine At.skip ?_
      refine At.next ?_
      refine At.seq ?_
      refine At.block ?_
      refine At.seq ?_
      refine At.region ?_
      refine At.p (some 8) (P_move rfl rfl) ?_
      refine At.p (some 4) (P_assign rfl rfl) ?_
      refine At.nil ?_
      refine At.next ?_
      refine At.seq ?_
      refine At.region ?_
      refine At.p (some 9) (P_move rfl rfl) ?_
      refine At.p (some 10) (P_quo_i rfl rfl rfl (by omega) (by omega) (by first | decide | omega)) ?_
      refine At.p (some 11) (P_indexAddr_arr1 (j := (i / 8)) rfl Try.underlying22 sz5 rfl rfl RO OG) ?_
      refine At.q (some 12) (Q_loadM (k := 1) (f := u8V) (l := b) (0#8) rfl rfl Try.underlying5 rfl rfl OG) ?_
      refine At.p (some 13) (P_move rfl rfl) ?_
      refine At.p (some 14) (P_rem_i rfl rfl rfl (by omega) (by first | decide | omega)) ?_
      refine At.p (some 15) (P_shr_w UK.u8 (n := 8) rfl rfl rfl (by first | decide | omega)) ?_
      refine At.p (some 16) (P_and_w UK.u8 (b := 1#8) rfl rfl rfl) ?_
      refine At.p (some 17) (P_conv_ww UK.u64 (m := 8) rfl Try.underlying5 Try.underlying31 rfl) ?_
      refine At.p (some 5) (P_assign rfl rfl) ?_
      refine At.nil ?_
      refine At.next ?_
      refine At.draws 8 [] [.q false [0, 1, 2, 3, 4, 5, 6, 7]] (by kernel_rfl) (by kernel_rfl) ?_
      refine At.wp (some 18) (P_move rfl rfl) ?_
      refine At.wp (some 19) (P_quo_i rfl rfl rfl (by omega) (by omega) (by first | decide | omega)) ?_
      refine At.wp (some 20) (P_indexAddr_arr1 (j := (i / 51)) rfl Try.underlying34 sz31 rfl rfl RO OG) ?_
      refine At.wq (some 21) (Q_loadM (k := 3) (f := u64V) (l := (dgs (leN b % 2 ^ i) 5)) (0#64) rfl rfl Try.underlying31 rfl rfl OG) ?_
      refine At.wp (some 22) (P_move rfl rfl) ?_
      refine At.wp (some 23) (P_move rfl rfl) ?_
      refine At.wp (some 24) (P_rem_i rfl rfl rfl (by omega) (by first | decide | omega)) ?_
      refine At.wp (some 25) (P_shl_w UK.u64 (n := 64) rfl rfl rfl (by first | decide | omega)) ?_
      refine At.wqn ?_
      refine At.wt rfl ?_
      refine At.p (some 26) (P_or_w UK.u64 rfl rfl rfl) ?_
      refine At.p (some 27) (P_indexAddr_arr1 (j := (i / 51)) rfl Try.underlying34 sz31 rfl rfl RO OG) ?_
      refine At.s (S_storeM none (f := u64V) (l := (dgs (leN b % 2 ^ i) 5)) (u := (((dgs (leN b % 2 ^ i) 5).getD (i / 51) 0#64) ||| (((((b.getD (i / 8) 0#8) >>> (((i : Int) % 8) : Int).toNat) &&& 1#8).setWidth 64) <<< (((i : Int) % 51) : Int).toNat))) (k := 3) rfl rfl rfl sz31 rfl rfl rfl OG ?_)
      refine At.nil ?_
      refine At.inb_n ?_
      refine At.next ?_
      refine At.region ?_
      refine At.p (some 28) (P_add_i rfl rfl rfl (by omega)) ?_
      refine At.p (some 6) (P_move rfl rfl) ?_
      refine At.nil ?_
      refine At.next ?_
      refine At.to [(0, _), (1, _), (2, _), (3, _), (6, _)] [(1, _), (2, _), (3, ⟨true, b3, 0, 34, ((dgs (leN b % 2 ^ (i + 1)) 5)).map u64V, 0⟩)] (AllL.cons_ (rfl) (AllL.cons_ (rfl) (AllL.cons_ (rfl) (AllL.cons_ (rfl) (AllL.cons_ (rfl) trivial))))) (AllL.cons_ (rfl) (AllL.cons_ (rfl) (AllL.cons_ ((by rw [← unpack_step hb (by omega)]; rfl)) trivial))) ?_
      exact hKc0 _ _ _ (by omega) ⟨i + 1, rfl, rfl, rfl, (by omega)⟩
    · -- cond 7 f
      have e7 : ¬ (i : Int) < 255 := of_decide_eq_false h7
      refine At.exit ?_
      refine At.thn_e ?_
      refine At.thn_e ?_
      refine At.inb_hit ?_
      refine At.next ?_
      refine At.seq ?_
      obtain rfl : i = 255 := by omega
      have hdl := dgs_len (leN b % 2 ^ 255) 5
      refine At.region ?_
      refine At.q (some 29) (Q_loadA (k := 3) rfl rfl Try.underlying34 rfl sz34 LN rfl) ?_
      refine At.s (S_storeA none (k := 2) (vs := ((dgs (leN b % 2 ^ 255) 5)).map u64V) rfl rfl rfl (by rw [sz34]; exact congrArg some LN) rfl (one_map (fun _ => rfl)) NG rfl LN ?_)
      refine At.nil ?_
      refine At.next ?_
      refine At.ret ?_
      have hq0 : ((dgs (leN b % 2 ^ 255) 5)).map u64V = (dgs (leN b % 57896044618658097711785492504343953926634992332820282019728792003956564819968) 5).map u64V := rfl
      refine At.giveV (.inl rfl) [] (rows' := []) (ResV.cellA (k := 2) rfl rfl Try.underlying34 rfl sz34 LN rfl) rfl (by simp) (by simp) ?_
      exact ⟨congrArg (fun z => Value.agg (List.toArray z)) hq0, rfl⟩

set_option maxHeartbeats 2000000 in
theorem c_pack {a : List (BitVec 64)} (ha : a.length = 5) (ba : Bnd a) :
    Con Try.prog 15 [.agg ((a).map u64V).toArray] [] (fun v rs => v = aggK (packN (nv a)) ∧ rs = []) := by
  refine Con.enter Try.func15 Try.ntmps15 (Nat.le_of_ble_eq_true rfl) rfl fun w => ?_
  refine At.seq ?_
  refine At.region ?_
  refine At.s (S_box (some 1) 1 (zs := (a).map u64V) rfl rfl rfl (fun b1 => ?_))
  refine At.s (S_alloc (some 2) 2 (zs := (List.replicate 32 0#8).map u8V) rfl ze22 rfl (fun b2 => ?_))
  refine At.nil ?_
  refine At.next ?_
  refine At.seq ?_
  obtain ⟨V, hV, eV, mV⟩ := pack_two ba
  have hla := LtA.of_bnd ba
  have hl1 : LtA (carN (nv a)) := carN_lt (by have := ba.lt; omega)
  refine At.region ?_
  refine At.q (some 9) (Q_loadA (k := 1) rfl rfl Try.underlying34 rfl sz34 LN rfl) ?_
  refine At.s (S_callV (some 10) [] [] (vs := [_]) rfl en26 rfl V0 (by simp) (c_carried (a := a) LN BD) (by rintro _ _ ⟨rfl, rfl⟩; rfl) ?_)
  rintro _ _ ⟨rfl, rfl⟩
  have := carN_len (nv a)
  refine At.s (S_callV (some 11) [] [] (vs := [_]) rfl en26 rfl V0 (by simp) (c_carried (a := (carN (nv a))) LN BD) (by rintro _ _ ⟨rfl, rfl⟩; rfl) ?_)
  rintro _ _ ⟨rfl, rfl⟩
  have := carN_len (nv (carN (nv a)))
  have hdl1 := dgs_len V 5
  simp only [eV]
  refine At.s (S_storeA none (k := 1) (vs := (dgs V 5).map u64V) rfl rfl rfl (by rw [sz34]; exact congrArg some LN) rfl (one_map (fun _ => rfl)) NG rfl LN ?_)
  refine At.nil ?_
  refine At.next ?_
  refine At.seq ?_
  refine At.region ?_
  refine At.q (some 12) (Q_loadA (k := 1) rfl rfl Try.underlying34 rfl sz34 LN rfl) ?_
  refine At.s (S_alloc (some 3) 3 (zs := (List.replicate 5 0#64).map u64V) rfl ze34 rfl (fun b3 => ?_))
  refine At.s (S_storeA none (k := 3) (vs := (dgs V 5).map u64V) rfl rfl rfl (by rw [sz34]; exact congrArg some LN) rfl (one_map (fun _ => rfl)) NG rfl LN ?_)
  refine At.nil ?_
  refine At.next ?_
  refine At.seq ?_
  refine At.region ?_
  refine At.p (some 13) (P_indexAddr_arr1 (j := 0) rfl Try.underlying34 sz31 rfl rfl rfl (by decide)) ?_
  have hdl := dgs_len V 5
  refine At.q (some 14) (Q_loadM (k := 3) (f := u64V) (l := (dgs V 5)) (0#64) rfl rfl Try.underlying31 rfl rfl OG) ?_
  refine At.p (some 15) (P_add_w UK.u64 (b := 19#64) rfl rfl rfl) ?_
  refine At.p (some 16) (P_indexAddr_arr1 (j := 0) rfl Try.underlying34 sz31 rfl rfl rfl (by decide)) ?_
  refine At.s (S_storeM none (f := u64V) (l := (dgs V 5)) (u := (((dgs V 5).getD 0 0#64) + 19#64)) (k := 3) rfl rfl rfl sz31 rfl rfl rfl OG ?_)
  refine At.nil ?_
  refine At.next ?_
  refine At.seq ?_
  refine At.region ?_
  refine At.p (some 4) (P_assign rfl rfl) ?_
  refine At.nil ?_
  refine At.next ?_
  refine At.seq ?_
  refine At.seq ?_
  have hwl := addW_len V
  have hwt := addW_lt V
  have hdl2 := dgs_len V 5
  refine At.region ?_
  refine At.q (some 17) (Q_loadA (k := 3) rfl rfl Try.underlying34 rfl sz34 LN rfl) ?_
  refine At.p (some 18) (P_move rfl rfl) ?_
  refine At.nil ?_
  refine At.next ?_
  refine At.block ?_
  refine At.loopx (I := fun m fr H => ∃ (i : Nat), m = 5 - i ∧ fr = frOf [(0, .agg ((a).map u64V).toArray), (1, ptr b1 0), (2, ptr b2 0), (3, ptr b3 0), (4, u64V (BitVec.ofNat 64 (ccy ((addW V).map BitVec.toNat) i))), (9, .agg ((a).map u64V).toArray), (10, .agg ((carN (nv a)).map u64V).toArray), (11, .agg ((dgs V 5).map u64V).toArray), (12, .agg ((dgs V 5).map u64V).toArray), (13, ptr b3 0), (14, u64V ((dgs V 5).getD 0 0#64)), (15, u64V (((dgs V 5).getD 0 0#64) + 19#64)), (16, ptr b3 0), (17, .agg ((addW V).map u64V).toArray), (18, iV (i : Int))] ∧ H = hOf [(1, ⟨true, b1, 0, 34, (dgs V 5).map u64V, 0⟩), (2, ⟨true, b2, 0, 22, (List.replicate 32 0#8).map u8V, 0⟩), (3, ⟨true, b3, 0, 34, ((cst ((addW V).map BitVec.toNat) (addW V) i)).map u64V, 0⟩)] ∧ (i ≤ 5)) ?_ ?_
  · intro Kc0 hKc0
    refine At.to [(0, _), (1, _), (2, _), (3, _), (4, u64V (BitVec.ofNat 64 (ccy ((addW V).map BitVec.toNat) 0))), (9, _), (10, _), (11, _), (12, _), (13, _), (14, _), (15, _), (16, _), (17, _), (18, _)] [(1, _), (2, _), (3, ⟨true, b3, 0, 34, ((cst ((addW V).map BitVec.toNat) (addW V) 0)).map u64V, 0⟩)] (AllL.cons_ (rfl) (AllL.cons_ (rfl) (AllL.cons_ (rfl) (AllL.cons_ (rfl) (AllL.cons_ ((by rw [ccy_zero]; rfl)) (AllL.cons_ (rfl) (AllL.cons_ (rfl) (AllL.cons_ (rfl) (AllL.cons_ (rfl) (AllL.cons_ (rfl) (AllL.cons_ (rfl) (AllL.cons_ (rfl) (AllL.cons_ (rfl) (AllL.cons_ (rfl) (AllL.cons_ (rfl) trivial))))))))))))))) (AllL.cons_ (rfl) (AllL.cons_ (rfl) (AllL.cons_ ((by rw [cst_zero]; rfl)) trivial))) ?_
    exact hKc0 _ _ _ ⟨0, rfl, rfl, rfl, (by omega)⟩
  · rintro m fr H ⟨i, rfl, rfl, rfl, hi⟩ Kc0 hKc0
    have hcl : (cst ((addW V).map BitVec.toNat) (addW V) i).length = 5 := (cst_len (by omega)).trans hwl
    refine At.seq ?_
    refine At.region ?_
    refine At.p (some 19) (P_cmp rfl rfl rfl rfl rfl rfl) ?_
    refine At.nil ?_
    refine At.next ?_
    refine At.seq ?_
    refine At.cond rfl (fun h19 => ?_) (fun h19 => ?_)
    · -- cond 19 t
      have e19 : (i : Int) < 5 := of_decide_eq_true h19
      refine At.skip ?_
      refine At.next ?_
      refine At.seq ?_
      refine At.block ?_
      refine At.seq ?_
      refine At.region ?_
      refine At.p (some 20) (P_move rfl rfl) ?_
      refine At.p (some 21) (P_indexM (j := i) (l := (addW V)) (0#64) rfl Try.underlying34 sz31 Try.underlying31 rfl rfl RO OG LN) ?_
      refine At.p (some 5) (P_assign rfl rfl) ?_
      refine At.p (some 6) (P_assign rfl rfl) ?_
      refine At.nil ?_
      refine At.next ?_
      refine At.seq ?_
      refine At.region ?_
      refine At.p (some 22) (P_move rfl rfl) ?_
      refine At.p (some 23) (P_move rfl rfl) ?_
      refine At.p (some 24) (P_add_w UK.u64 rfl rfl rfl) ?_
      refine At.p (some 6) (P_assign rfl rfl) ?_
      refine At.nil ?_
      refine At.next ?_
      refine At.region ?_
      refine At.p (some 25) (P_move rfl rfl) ?_
      refine At.p (some 26) (P_move rfl rfl) ?_
      refine At.p (some 27) (P_and_w UK.u64 (b := 2251799813685247#64) rfl rfl rfl) ?_
      refine At.p (some 28) (P_move rfl rfl) ?_
      refine At.p (some 29) (P_shr_w UK.u64 (n := 64) rfl rfl rfl (by first | decide | omega)) ?_
      refine At.p (some 30) (P_indexAddr_arr1 (j := i) rfl Try.underlying34 sz31 rfl rfl RO OG) ?_
      refine At.s (S_storeM none (f := u64V) (l := (cst ((addW V).map BitVec.toNat) (addW V) i)) (u := ((((addW V).getD i 0#64) + (BitVec.ofNat 64 (ccy ((addW V).map BitVec.toNat) i))) &&& 2251799813685247#64)) (k := 3) rfl rfl rfl sz31 rfl rfl rfl OG ?_)
      refine At.p (some 4) (P_assign rfl rfl) ?_
      refine At.nil ?_
      refine At.inb_n ?_
      refine At.next ?_
      refine At.region ?_
      refine At.p (some 31) (P_add_i rfl rfl rfl (by omega)) ?_
      refine At.p (some 18) (P_move rfl rfl) ?_
      refine At.nil ?_
      refine At.next ?_
      refine At.to [(0, _), (1, _), (2, _), (3, _), (4, u64V (BitVec.ofNat 64 (ccy ((addW V).map BitVec.toNat) (i + 1)))), (9, _), (10, _), (11, _), (12, _), (13, _), (14, _), (15, _), (16, _), (17, _), (18, _)] [(1, _), (2, _), (3, ⟨true, b3, 0, 34, ((cst ((addW V).map BitVec.toNat) (addW V) (i + 1))).map u64V, 0⟩)] (AllL.cons_ (rfl) (AllL.cons_ (rfl) (AllL.cons_ (rfl) (AllL.cons_ (rfl) (AllL.cons_ ((by rw [← car_hi hwt (by omega)]; rfl)) (AllL.cons_ (rfl) (AllL.cons_ (rfl) (AllL.cons_ (rfl) (AllL.cons_ (rfl) (AllL.cons_ (rfl) (AllL.cons_ (rfl) (AllL.cons_ (rfl) (AllL.cons_ (rfl) (AllL.cons_ (rfl) (AllL.cons_ (rfl) trivial))))))))))))))) (AllL.cons_ (rfl) (AllL.cons_ (rfl) (AllL.cons_ ((by rw [← car_step hwt (by omega)]; rfl)) trivial))) ?_
      exact hKc0 _ _ _ (by omega) ⟨i + 1, rfl, rfl, rfl, (by omega)⟩
    · -- cond 19 f
      have e19 : ¬ (i : Int) < 5 := of_decide_eq_false h19
      refine At.exit ?_
      refine At.thn_e ?_
      refine At.thn_e ?_
      refine At.inb_hit ?_
      refine At.next ?_
      refine At.seqJ (fun fr H => fr = frOf [(0, .agg ((a).map u64V).toArray), (1, ptr b1 0), (2, ptr b2 0), (3, ptr b3 0), (4, u64V (BitVec.ofNat 64 (ccy ((addW V).map BitVec.toNat) i))), (9, .agg ((a).map u64V).toArray), (10, .agg ((carN (nv a)).map u64V).toArray), (11, .agg ((dgs V 5).map u64V).toArray), (12, .agg ((dgs V 5).map u64V).toArray), (13, ptr b3 0), (14, u64V ((dgs V 5).getD 0 0#64)), (15, u64V (((dgs V 5).getD 0 0#64) + 19#64)), (16, ptr b3 0), (17, .agg ((addW V).map u64V).toArray), (18, iV (i : Int)), (19, .bool (decide ((i : Int) < 5)))] ∧ H = hOf [(1, ⟨true, b1, 0, 34, ((dgs (V % pN) 5)).map u64V, 0⟩), (2, ⟨true, b2, 0, 22, (List.replicate 32 0#8).map u8V, 0⟩), (3, ⟨true, b3, 0, 34, ((cst ((addW V).map BitVec.toNat) (addW V) i)).map u64V, 0⟩)] ∧ True) ?_ ?_
      · intro Kj1 hKj1
        refine At.seq ?_
        obtain rfl : i = 5 := by omega
        have hc5 := (cst_len (t := ((addW V).map BitVec.toNat)) (a := addW V) (i := 5) (by rw [addW_len]; decide)).trans (addW_len V)
        refine At.region ?_
        refine At.p (some 32) (P_move rfl rfl) ?_
        refine At.p (some 33) (P_gtr_w (n := 64) (b := 0#64) rfl rfl rfl) ?_
        refine At.nil ?_
        refine At.next ?_
        refine At.cond rfl (fun h33 => ?_) (fun h33 => ?_)
        · -- cond 33 t
          have e33 : (0#64).toNat < (BitVec.ofNat 64 (ccy ((addW V).map BitVec.toNat) 5)).toNat := of_decide_eq_true h33
          refine At.region ?_
          refine At.q (some 34) (Q_loadA (k := 3) rfl rfl Try.underlying34 rfl sz34 LN rfl) ?_
          refine At.s (S_storeA none (k := 1) (vs := ((cst ((addW V).map BitVec.toNat) (addW V) 5)).map u64V) rfl rfl rfl (by rw [sz34]; exact congrArg some LN) rfl (one_map (fun _ => rfl)) NG rfl LN ?_)
          refine At.nil ?_
          refine At.next ?_
          refine At.to [(0, _), (1, _), (2, _), (3, _), (4, _), (9, _), (10, _), (11, _), (12, _), (13, _), (14, _), (15, _), (16, _), (17, _), (18, _), (19, _)] [(1, ⟨true, b1, 0, 34, ((dgs (V % pN) 5)).map u64V, 0⟩), (2, _), (3, _)] (AllL.cons_ (rfl) (AllL.cons_ (rfl) (AllL.cons_ (rfl) (AllL.cons_ (rfl) (AllL.cons_ (rfl) (AllL.cons_ (rfl) (AllL.cons_ (rfl) (AllL.cons_ (rfl) (AllL.cons_ (rfl) (AllL.cons_ (rfl) (AllL.cons_ (rfl) (AllL.cons_ (rfl) (AllL.cons_ (rfl) (AllL.cons_ (rfl) (AllL.cons_ (rfl) (AllL.cons_ (rfl) trivial)))))))))))))))) (AllL.cons_ ((by rw [← pack_t hV (by have := e33; have h8 : (BitVec.ofNat 64 (ccy ((addW V).map BitVec.toNat) 5)).toNat ≤ ccy ((addW V).map BitVec.toNat) 5 := (by rw [BitVec.toNat_ofNat]; exact Nat.mod_le _ _); exact Nat.lt_of_lt_of_le e33 h8)]; rfl)) (AllL.cons_ (rfl) (AllL.cons_ (rfl) trivial))) ?_
          exact hKj1 _ _ ⟨rfl, rfl, trivial⟩
        · -- cond 33 f
          have e33 : ¬ (0#64).toNat < (BitVec.ofNat 64 (ccy ((addW V).map BitVec.toNat) 5)).toNat := of_decide_eq_false h33
          refine At.skip ?_
          refine At.next ?_
          refine At.to [(0, _), (1, _), (2, _), (3, _), (4, _), (9, _), (10, _), (11, _), (12, _), (13, _), (14, _), (15, _), (16, _), (17, _), (18, _), (19, _)] [(1, ⟨true, b1, 0, 34, ((dgs (V % pN) 5)).map u64V, 0⟩), (2, _), (3, _)] (AllL.cons_ (rfl) (AllL.cons_ (rfl) (AllL.cons_ (rfl) (AllL.cons_ (rfl) (AllL.cons_ (rfl) (AllL.cons_ (rfl) (AllL.cons_ (rfl) (AllL.cons_ (rfl) (AllL.cons_ (rfl) (AllL.cons_ (rfl) (AllL.cons_ (rfl) (AllL.cons_ (rfl) (AllL.cons_ (rfl) (AllL.cons_ (rfl) (AllL.cons_ (rfl) (AllL.cons_ (rfl) trivial)))))))))))))))) (AllL.cons_ ((by rw [← pack_f hV (by have h9 := car_cy hwt 5 (by rw [addW_len]; decide); have h10 : (BitVec.ofNat 64 (ccy ((addW V).map BitVec.toNat) 5)).toNat = ccy ((addW V).map BitVec.toNat) 5 := ofN (by omega); have := e33; rw [h10] at this; exact this)]; rfl)) (AllL.cons_ (rfl) (AllL.cons_ (rfl) trivial))) ?_
          exact hKj1 _ _ ⟨rfl, rfl, trivial⟩
      · rintro fr H ⟨rfl, rfl, -⟩
        have hdm := dgs_len (V % pN) 5
        refine At.seq ?_
        refine At.region ?_
        refine At.s (S_alloc (some 7) 7 (zs := (List.replicate 32 0#8).map u8V) rfl ze22 rfl (fun b7 => ?_))
        refine At.nil ?_
        refine At.next ?_
        refine At.seq ?_
        refine At.seq ?_
        refine At.region ?_
        refine At.p (some 35) (P_move rfl rfl) ?_
        refine At.nil ?_
        refine At.next ?_
        refine At.block ?_
        refine At.loopx (I := fun m fr H => ∃ (q : Nat), m = 255 - q ∧ fr = frOf [(0, .agg ((a).map u64V).toArray), (1, ptr b1 0), (2, ptr b2 0), (3, ptr b3 0), (4, u64V (BitVec.ofNat 64 (ccy ((addW V).map BitVec.toNat) i))), (7, ptr b7 0), (9, .agg ((a).map u64V).toArray), (10, .agg ((carN (nv a)).map u64V).toArray), (11, .agg ((dgs V 5).map u64V).toArray), (12, .agg ((dgs V 5).map u64V).toArray), (13, ptr b3 0), (14, u64V ((dgs V 5).getD 0 0#64)), (15, u64V (((dgs V 5).getD 0 0#64) + 19#64)), (16, ptr b3 0), (17, .agg ((addW V).map u64V).toArray), (18, iV (i : Int)), (19, .bool (decide ((i : Int) < 5))), (35, iV (q : Int))] ∧ H = hOf [(1, ⟨true, b1, 0, 34, ((dgs (V % pN) 5)).map u64V, 0⟩), (2, ⟨true, b2, 0, 22, (List.replicate 32 0#8).map u8V, 0⟩), (3, ⟨true, b3, 0, 34, ((cst ((addW V).map BitVec.toNat) (addW V) i)).map u64V, 0⟩), (7, ⟨true, b7, 0, 22, ((gd 8 8 (V % pN % 2 ^ q) 32)).map u8V, 0⟩)] ∧ (q ≤ 255)) ?_ ?_
        · intro Kc1 hKc1
          refine At.to [(0, _), (1, _), (2, _), (3, _), (4, _), (7, _), (9, _), (10, _), (11, _), (12, _), (13, _), (14, _), (15, _), (16, _), (17, _), (18, _), (19, _), (35, _)] [(1, _), (2, _), (3, _), (7, ⟨true, b7, 0, 22, ((gd 8 8 (V % pN % 2 ^ 0) 32)).map u8V, 0⟩)] (AllL.cons_ (rfl) (AllL.cons_ (rfl) (AllL.cons_ (rfl) (AllL.cons_ (rfl) (AllL.cons_ (rfl) (AllL.cons_ (rfl) (AllL.cons_ (rfl) (AllL.cons_ (rfl) (AllL.cons_ (rfl) (AllL.cons_ (rfl) (AllL.cons_ (rfl) (AllL.cons_ (rfl) (AllL.cons_ (rfl) (AllL.cons_ (rfl) (AllL.cons_ (rfl) (AllL.cons_ (rfl) (AllL.cons_ (rfl) (AllL.cons_ (rfl) trivial)))))))))))))))))) (AllL.cons_ (rfl) (AllL.cons_ (rfl) (AllL.cons_ (rfl) (AllL.cons_ ((by rw [Nat.pow_zero, Nat.mod_one, gd_zero]; rfl)) trivial)))) ?_
          exact hKc1 _ _ _ ⟨0, rfl, rfl, rfl, (by omega)⟩
        · rintro m fr H ⟨q, rfl, rfl, rfl, hq⟩ Kc1 hKc1
          have hgl := gd_len 8 8 (V % pN % 2 ^ q) 32
          refine At.seq ?_
          refine At.region ?_
          refine At.p (some 36) (P_cmp rfl rfl rfl rfl rfl rfl) ?_
          refine At.nil ?_
          refine At.next ?_
          refine At.seq ?_
          refine At.cond rfl (fun h36 => ?_) (fun h36 => ?_)
          · -- cond 36 t
            have e36 : (q : Int) < 255 := of_decide_eq_true h36
            refine At.skip ?_
            refine At.next ?_
            refine At.seq ?_
            refine At.block ?_
            refine At.seq ?_
            refine At.region ?_
            refine At.p (some 37) (P_move rfl rfl) ?_
            refine At.p (some 8) (P_assign rfl rfl) ?_
            refine At.nil ?_
            refine At.next ?_
            refine At.draws 16 [] [.q false [0, 1, 2, 3, 4, 5, 6, 7, 8, 9, 10, 11, 12, 13, 14, 15]] (by kernel_rfl) (by kernel_rfl) ?_
            refine At.wp (some 38) (P_move rfl rfl) ?_
            refine At.wp (some 39) (P_quo_i rfl rfl rfl (by omega) (by omega) (by first | decide | omega)) ?_
            refine At.wp (some 40) (P_indexAddr_arr1 (j := (q / 8)) rfl Try.underlying22 sz5 rfl rfl RO OG) ?_
            refine At.wq (some 41) (Q_loadM (k := 7) (f := u8V) (l := (gd 8 8 (V % pN % 2 ^ q) 32)) (0#8) rfl rfl Try.underlying5 rfl rfl OG) ?_
            refine At.wp (some 42) (P_move rfl rfl) ?_
            refine At.wp (some 43) (P_quo_i rfl rfl rfl (by omega) (by omega) (by first | decide | omega)) ?_
            refine At.wp (some 44) (P_indexAddr_arr1 (j := (q / 51)) rfl Try.underlying34 sz31 rfl rfl RO OG) ?_
            refine At.wq (some 45) (Q_loadM (k := 1) (f := u64V) (l := (dgs (V % pN) 5)) (0#64) rfl rfl Try.underlying31 rfl rfl OG) ?_
            refine At.wp (some 46) (P_move rfl rfl) ?_
            refine At.wp (some 47) (P_rem_i rfl rfl rfl (by omega) (by first | decide | omega)) ?_
            refine At.wp (some 48) (P_shr_w UK.u64 (n := 64) rfl rfl rfl (by first | decide | omega)) ?_
            refine At.wp (some 49) (P_and_w UK.u64 (b := 1#64) rfl rfl rfl) ?_
            refine At.wp (some 50) (P_conv_ww UK.u8 (m := 64) rfl Try.underlying31 Try.underlying5 rfl) ?_
            refine At.wp (some 51) (P_move rfl rfl) ?_
            refine At.wp (some 52) (P_rem_i rfl rfl rfl (by omega) (by first | decide | omega)) ?_
            refine At.wp (some 53) (P_shl_w UK.u8 (n := 8) rfl rfl rfl (by first | decide | omega)) ?_
            refine At.wqn ?_
            refine At.wt rfl ?_
            refine At.p (some 54) (P_or_w UK.u8 rfl rfl rfl) ?_
            refine At.p (some 55) (P_indexAddr_arr1 (j := (q / 8)) rfl Try.underlying22 sz5 rfl rfl RO OG) ?_
            refine At.s (S_storeM none (f := u8V) (l := (gd 8 8 (V % pN % 2 ^ q) 32)) (u := (((gd 8 8 (V % pN % 2 ^ q) 32).getD (q / 8) 0#8) ||| ((((((dgs (V % pN) 5).getD (q / 51) 0#64) >>> (((q : Int) % 51) : Int).toNat) &&& 1#64).setWidth 8) <<< (((q : Int) % 8) : Int).toNat))) (k := 7) rfl rfl rfl sz5 rfl rfl rfl OG ?_)
            refine At.nil ?_
            refine At.inb_n ?_
            refine At.next ?_
            refine At.region ?_
            refine At.p (some 56) (P_add_i rfl rfl rfl (by omega)) ?_
            refine At.p (some 35) (P_move rfl rfl) ?_
            refine At.nil ?_
            refine At.next ?_
            refine At.to [(0, _), (1, _), (2, _), (3, _), (4, _), (7, _), (9, _), (10, _), (11, _), (12, _), (13, _), (14, _), (15, _), (16, _), (17, _), (18, _), (19, _), (35, _)] [(1, _), (2, _), (3, _), (7, ⟨true, b7, 0, 22, ((gd 8 8 (V % pN % 2 ^ (q + 1)) 32)).map u8V, 0⟩)] (AllL.cons_ (rfl) (AllL.cons_ (rfl) (AllL.cons_ (rfl) (AllL.cons_ (rfl) (AllL.cons_ (rfl) (AllL.cons_ (rfl) (AllL.cons_ (rfl) (AllL.cons_ (rfl) (AllL.cons_ (rfl) (AllL.cons_ (rfl) (AllL.cons_ (rfl) (AllL.cons_ (rfl) (AllL.cons_ (rfl) (AllL.cons_ (rfl) (AllL.cons_ (rfl) (AllL.cons_ (rfl) (AllL.cons_ (rfl) (AllL.cons_ (rfl) trivial)))))))))))))))))) (AllL.cons_ (rfl) (AllL.cons_ (rfl) (AllL.cons_ (rfl) (AllL.cons_ ((by rw [← pack_step (by omega)]; rfl)) trivial)))) ?_
            exact hKc1 _ _ _ (by omega) ⟨q + 1, rfl, rfl, rfl, (by omega)⟩
          · -- cond 36 f
            have e36 : ¬ (q : Int) < 255 := of_decide_eq_false h36
            refine At.exit ?_
            refine At.thn_e ?_
            refine At.thn_e ?_
            refine At.inb_hit ?_
            refine At.next ?_
            refine At.seq ?_
            obtain rfl : q = 255 := by omega
            refine At.region ?_
            refine At.q (some 57) (Q_loadA (k := 7) rfl rfl Try.underlying22 rfl sz22 LN rfl) ?_
            refine At.s (S_storeA none (k := 2) (vs := ((gd 8 8 (V % pN % 2 ^ 255) 32)).map u8V) rfl rfl rfl (by rw [sz22]; exact congrArg some LN) rfl (one_map (fun _ => rfl)) NG rfl LN ?_)
            refine At.nil ?_
            refine At.next ?_
            refine At.ret ?_
            have hq0 : ((gd 8 8 (V % pN % 2 ^ 255) 32)).map u8V = (packN (nv a)).map u8V := (by rw [pack_end, packN, packN, mV])
            refine At.giveV (.inl rfl) [] (rows' := []) (ResV.cellA (k := 2) rfl rfl Try.underlying22 rfl sz22 LN rfl) rfl (by simp) (by simp) ?_
            exact ⟨congrArg (fun z => Value.agg (List.toArray z)) hq0, rfl⟩

set_option maxHeartbeats 2000000 in
theorem c_swap {bl : Nat} {x1 : List (BitVec 64)} {x2 : List (BitVec 64)} {z2 : List (BitVec 64)} {x3 : List (BitVec 64)} {z3 : List (BitVec 64)} {bit : BitVec 8} (hx1 : x1.length = 5) (hx2 : x2.length = 5) (hz2 : z2.length = 5) (hx3 : x3.length = 5) (hz3 : z3.length = 5) (hbit : bit = 0#8 ∨ bit = 1#8) :
    Con Try.prog 13 [ptr bl 0, u8V bit] [⟨true, bl, 0, 38, [(x1).map u64V, (x2).map u64V, (z2).map u64V, (x3).map u64V, (z3).map u64V].flatten, 0⟩] (fun v rs => v = .tuple #[] ∧ rs = [⟨true, bl, 0, 38, [(x1).map u64V, (selB bit x2 x3).map u64V, (selB bit z2 z3).map u64V, (selB bit x3 x2).map u64V, (selB bit z3 z2).map u64V].flatten, 0⟩]) := by
  refine Con.enter Try.func13 Try.ntmps13 (Nat.le_of_ble_eq_true rfl) rfl fun w => ?_
  refine At.seq ?_
  refine At.region ?_
  refine At.p (some 8) (P_move rfl rfl) ?_
  refine At.p (some 9) (P_conv_ww UK.u64 (m := 8) rfl Try.underlying5 Try.underlying31 rfl) ?_
  refine At.p (some 10) (P_neg_w UK.u64 rfl rfl) ?_
  refine At.p (some 4) (P_assign rfl rfl) ?_
  refine At.nil ?_
  refine At.next ?_
  refine At.seq ?_
  refine At.region ?_
  refine At.p (some 11) (P_move rfl rfl) ?_
  refine At.nil ?_
  refine At.next ?_
  refine At.block ?_
  refine At.loopx (I := fun m fr H => ∃ (i : Nat), m = 5 - i ∧ fr = frOf [(0, ptr bl 0), (1, u8V bit), (4, u64V (-(bit.setWidth 64))), (8, u8V bit), (9, u64V (bit.setWidth 64)), (10, u64V (-(bit.setWidth 64))), (11, iV (i : Int))] ∧ H = hOf [(0, ⟨true, bl, 0, 38, [(x1).map u64V, ((selI bit x2 x3 i)).map u64V, ((selI bit z2 z3 i)).map u64V, ((selI bit x3 x2 i)).map u64V, ((selI bit z3 z2 i)).map u64V].flatten, 0⟩)] ∧ (i ≤ 5)) ?_ ?_
  · intro Kc0 hKc0
    refine At.to [(0, _), (1, _), (4, _), (8, _), (9, _), (10, _), (11, _)] [(0, ⟨true, bl, 0, 38, [(x1).map u64V, ((selI bit x2 x3 0)).map u64V, ((selI bit z2 z3 0)).map u64V, ((selI bit x3 x2 0)).map u64V, ((selI bit z3 z2 0)).map u64V].flatten, 0⟩)] (AllL.cons_ (rfl) (AllL.cons_ (rfl) (AllL.cons_ (rfl) (AllL.cons_ (rfl) (AllL.cons_ (rfl) (AllL.cons_ (rfl) (AllL.cons_ (rfl) trivial))))))) (AllL.cons_ ((by rw [selI_zero, selI_zero, selI_zero, selI_zero]; rfl)) trivial) ?_
    exact hKc0 _ _ _ ⟨0, rfl, rfl, rfl, (by omega)⟩
  · rintro m fr H ⟨i, rfl, rfl, rfl, hi⟩ Kc0 hKc0
    have hs1 := selI_len (bit := bit) hx2 hx3 hi
    have hs2 := selI_len (bit := bit) hz2 hz3 hi
    have hs3 := selI_len (bit := bit) hx3 hx2 hi
    have hs4 := selI_len (bit := bit) hz3 hz2 hi
    refine At.seq ?_
    refine At.region ?_
    refine At.p (some 12) (P_cmp rfl rfl rfl rfl rfl rfl) ?_
    refine At.nil ?_
    refine At.next ?_
    refine At.seq ?_
    refine At.cond rfl (fun h12 => ?_) (fun h12 => ?_)
    · -- cond 12 t
      have e12 : (i : Int) < 5 := of_decide_eq_true h12
      refine At.skip ?_
      refine At.next ?_
      refine At.seq ?_
      refine At.block ?_
      refine At.seq ?_
      refine At.region ?_
      refine At.p (some 13) (P_move rfl rfl) ?_
      refine At.p (some 5) (P_assign rfl rfl) ?_
      refine At.nil ?_
      refine At.next ?_
      refine At.seq ?_
      refine At.draws 31 [] [.q false [0, 1, 2, 3, 4, 5, 6, 7, 8, 9, 10, 11, 12, 13, 14, 15, 16, 17, 18, 19, 20, 21, 22, 23, 24, 25, 26, 27, 28, 29, 30]] (by kernel_rfl) (by kernel_rfl) ?_
      refine At.wp (some 14) (P_move rfl rfl) ?_
      refine At.wp (some 15) (P_move rfl rfl) ?_
      refine At.wp (some 16) (P_move rfl rfl) ?_
      refine At.wp (some 17) (P_nilCheck rfl rfl) ?_
      refine At.wp (some 18) (P_fieldAddr0 (off := 5) rfl Try.underlying38 rfl sz34 rfl rfl) ?_
      refine At.wp (some 19) (P_indexAddr_arr (j := i) rfl Try.underlying34 sz31 rfl rfl RO OG) ?_
      refine At.wq (some 20) (Q_loadO (k := 0) (v := u64V ((selI bit x2 x3 i).getD i 0#64)) rfl rfl Try.underlying31 rfl rfl (seg_getM (i := 1) (p := i) rfl LN OG)) ?_
      refine At.wp (some 21) (P_move rfl rfl) ?_
      refine At.wp (some 22) (P_move rfl rfl) ?_
      refine At.wp (some 23) (P_nilCheck rfl rfl) ?_
      refine At.wp (some 24) (P_fieldAddr0 (off := 15) rfl Try.underlying38 rfl sz34 rfl rfl) ?_
      refine At.wp (some 25) (P_indexAddr_arr (j := i) rfl Try.underlying34 sz31 rfl rfl RO OG) ?_
      refine At.wq (some 26) (Q_loadO (k := 0) (v := u64V ((selI bit x3 x2 i).getD i 0#64)) rfl rfl Try.underlying31 rfl rfl (seg_getM (i := 3) (p := i) rfl LN OG)) ?_
      refine At.wp (some 27) (P_xor_w UK.u64 rfl rfl rfl) ?_
      refine At.wp (some 28) (P_and_w UK.u64 rfl rfl rfl) ?_
      refine At.wp (some 29) (P_move rfl rfl) ?_
      refine At.wp (some 30) (P_move rfl rfl) ?_
      refine At.wp (some 31) (P_move rfl rfl) ?_
      refine At.wp (some 32) (P_nilCheck rfl rfl) ?_
      refine At.wp (some 33) (P_fieldAddr0 (off := 10) rfl Try.underlying38 rfl sz34 rfl rfl) ?_
      refine At.wp (some 34) (P_indexAddr_arr (j := i) rfl Try.underlying34 sz31 rfl rfl RO OG) ?_
      refine At.wq (some 35) (Q_loadO (k := 0) (v := u64V ((selI bit z2 z3 i).getD i 0#64)) rfl rfl Try.underlying31 rfl rfl (seg_getM (i := 2) (p := i) rfl LN OG)) ?_
      refine At.wp (some 36) (P_move rfl rfl) ?_
      refine At.wp (some 37) (P_move rfl rfl) ?_
      refine At.wp (some 38) (P_nilCheck rfl rfl) ?_
      refine At.wp (some 39) (P_fieldAddr0 (off := 20) rfl Try.underlying38 rfl sz34 rfl rfl) ?_
      refine At.wp (some 40) (P_indexAddr_arr (j := i) rfl Try.underlying34 sz31 rfl rfl RO OG) ?_
      refine At.wq (some 41) (Q_loadO (k := 0) (v := u64V ((selI bit z3 z2 i).getD i 0#64)) rfl rfl Try.underlying31 rfl rfl (seg_getM (i := 4) (p := i) rfl LN OG)) ?_
      refine At.wp (some 42) (P_xor_w UK.u64 rfl rfl rfl) ?_
      refine At.wp (some 43) (P_and_w UK.u64 rfl rfl rfl) ?_
      refine At.wp (some 6) (P_assign rfl rfl) ?_
      refine At.wqn ?_
      refine At.wt rfl ?_
      refine At.p (some 7) (P_assign rfl rfl) ?_
      refine At.nil ?_
      refine At.next ?_
      refine At.seq ?_
      refine At.draws 26 [23] [.q false [0, 1], .q true [2, 3], .q false [4, 5, 6, 7, 8, 9, 10, 11], .q true [12, 13, 14, 15, 16], .q false [17], .q true [18, 19, 20, 21], .q false [22], .q true [24, 25], .e true 23] (by kernel_rfl) (by kernel_rfl) ?_
      refine At.wp (some 44) (P_move rfl rfl) ?_
      refine At.wp (some 45) (P_move rfl rfl) ?_
      refine At.wqn ?_
      refine At.wp (some 46) (P_move rfl rfl) ?_
      refine At.wp (some 47) (P_move rfl rfl) ?_
      refine At.wqn ?_
      refine At.wp (some 48) (P_move rfl rfl) ?_
      refine At.wp (some 49) (P_move rfl rfl) ?_
      refine At.wp (some 50) (P_nilCheck rfl rfl) ?_
      refine At.wp (some 51) (P_fieldAddr0 (off := 5) rfl Try.underlying38 rfl sz34 rfl rfl) ?_
      refine At.wp (some 52) (P_indexAddr_arr (j := i) rfl Try.underlying34 sz31 rfl rfl RO OG) ?_
      refine At.wq (some 53) (Q_loadO (k := 0) (v := u64V ((selI bit x2 x3 i).getD i 0#64)) rfl rfl Try.underlying31 rfl rfl (seg_getM (i := 1) (p := i) rfl LN OG)) ?_
      refine At.wp (some 54) (P_move rfl rfl) ?_
      refine At.wp (some 55) (P_xor_w UK.u64 rfl rfl rfl) ?_
      refine At.wqn ?_
      refine At.wp (some 56) (P_move rfl rfl) ?_
      refine At.wp (some 57) (P_move rfl rfl) ?_
      refine At.wp (some 58) (P_nilCheck rfl rfl) ?_
      refine At.wp (some 59) (P_fieldAddr0 (off := 15) rfl Try.underlying38 rfl sz34 rfl rfl) ?_
      refine At.wp (some 60) (P_indexAddr_arr (j := i) rfl Try.underlying34 sz31 rfl rfl RO OG) ?_
      refine At.wqn ?_
      refine At.wq (some 61) (Q_loadO (k := 0) (v := u64V ((selI bit x3 x2 i).getD i 0#64)) rfl rfl Try.underlying31 rfl rfl (seg_getM (i := 3) (p := i) rfl LN OG)) ?_
      refine At.wqn ?_
      refine At.wp (some 62) (P_move rfl rfl) ?_
      refine At.wp (some 63) (P_xor_w UK.u64 rfl rfl rfl) ?_
      refine At.wp (some 64) (P_nilCheck rfl rfl) ?_
      refine At.wp (some 65) (P_fieldAddr0 (off := 5) rfl Try.underlying38 rfl sz34 rfl rfl) ?_
      refine At.wqn ?_
      refine At.wp (some 66) (P_indexAddr_arr (j := i) rfl Try.underlying34 sz31 rfl rfl RO OG) ?_
      refine At.wqn ?_
      refine At.wp (some 67) (P_nilCheck rfl rfl) ?_
      refine At.wp (some 68) (P_fieldAddr0 (off := 15) rfl Try.underlying38 rfl sz34 rfl rfl) ?_
      refine At.wqn ?_
      refine At.we ?_
      refine S_store none (k := 0) rfl rfl rfl sz31 rfl rfl rfl LN ?_
      refine At.row 0 (⟨true, bl, 0, 38, [(x1).map u64V, (((selI bit x2 x3 i).set i (((selI bit x2 x3 i).getD i 0#64) ^^^ ((-(bit.setWidth 64)) &&& (((selI bit x2 x3 i).getD i 0#64) ^^^ ((selI bit x3 x2 i).getD i 0#64)))))).map u64V, ((selI bit z2 z3 i)).map u64V, ((selI bit x3 x2 i)).map u64V, ((selI bit z3 z2 i)).map u64V].flatten, 0⟩) rfl (seg_set1M (l := [(x1).map u64V, ((selI bit x2 x3 i)).map u64V, ((selI bit z2 z3 i)).map u64V, ((selI bit x3 x2 i)).map u64V, ((selI bit z3 z2 i)).map u64V]) (i := 1) (p := i) rfl LN OG) ?_
      refine At.wt rfl ?_
      refine At.p (some 69) (P_indexAddr_arr (j := i) rfl Try.underlying34 sz31 rfl rfl RO OG) ?_
      refine At.s (S_store none (k := 0) rfl rfl rfl sz31 rfl rfl rfl LN ?_)
      refine At.row 0 (⟨true, bl, 0, 38, [(x1).map u64V, (((selI bit x2 x3 i).set i (((selI bit x2 x3 i).getD i 0#64) ^^^ ((-(bit.setWidth 64)) &&& (((selI bit x2 x3 i).getD i 0#64) ^^^ ((selI bit x3 x2 i).getD i 0#64)))))).map u64V, ((selI bit z2 z3 i)).map u64V, (((selI bit x3 x2 i).set i (((selI bit x3 x2 i).getD i 0#64) ^^^ ((-(bit.setWidth 64)) &&& (((selI bit x2 x3 i).getD i 0#64) ^^^ ((selI bit x3 x2 i).getD i 0#64)))))).map u64V, ((selI bit z3 z2 i)).map u64V].flatten, 0⟩) rfl (seg_set1M (l := [(x1).map u64V, (((selI bit x2 x3 i).set i (((selI bit x2 x3 i).getD i 0#64) ^^^ ((-(bit.setWidth 64)) &&& (((selI bit x2 x3 i).getD i 0#64) ^^^ ((selI bit x3 x2 i).getD i 0#64)))))).map u64V, ((selI bit z2 z3 i)).map u64V, ((selI bit x3 x2 i)).map u64V, ((selI bit z3 z2 i)).map u64V]) (i := 3) (p := i) rfl LN OG) ?_
      refine At.nil ?_
      refine At.next ?_
      refine At.draws 26 [23] [.q false [0, 1], .q true [2, 3], .q false [4, 5, 6, 7, 8, 9, 10, 11], .q true [12, 13, 14, 15, 16], .q false [17], .q true [18, 19, 20, 21], .q false [22], .q true [24, 25], .e true 23] (by kernel_rfl) (by kernel_rfl) ?_
      refine At.wp (some 70) (P_move rfl rfl) ?_
      refine At.wp (some 71) (P_move rfl rfl) ?_
      refine At.wqn ?_
      refine At.wp (some 72) (P_move rfl rfl) ?_
      refine At.wp (some 73) (P_move rfl rfl) ?_
      refine At.wqn ?_
      refine At.wp (some 74) (P_move rfl rfl) ?_
      refine At.wp (some 75) (P_move rfl rfl) ?_
      refine At.wp (some 76) (P_nilCheck rfl rfl) ?_
      refine At.wp (some 77) (P_fieldAddr0 (off := 10) rfl Try.underlying38 rfl sz34 rfl rfl) ?_
      refine At.wp (some 78) (P_indexAddr_arr (j := i) rfl Try.underlying34 sz31 rfl rfl RO OG) ?_
      refine At.wq (some 79) (Q_loadO (k := 0) (v := u64V ((selI bit z2 z3 i).getD i 0#64)) rfl rfl Try.underlying31 rfl rfl (seg_getM (i := 2) (p := i) rfl LN OG)) ?_
      refine At.wp (some 80) (P_move rfl rfl) ?_
      refine At.wp (some 81) (P_xor_w UK.u64 rfl rfl rfl) ?_
      refine At.wqn ?_
      refine At.wp (some 82) (P_move rfl rfl) ?_
      refine At.wp (some 83) (P_move rfl rfl) ?_
      refine At.wp (some 84) (P_nilCheck rfl rfl) ?_
      refine At.wp (some 85) (P_fieldAddr0 (off := 20) rfl Try.underlying38 rfl sz34 rfl rfl) ?_
      refine At.wp (some 86) (P_indexAddr_arr (j := i) rfl Try.underlying34 sz31 rfl rfl RO OG) ?_
      refine At.wqn ?_
      refine At.wq (some 87) (Q_loadO (k := 0) (v := u64V ((selI bit z3 z2 i).getD i 0#64)) rfl rfl Try.underlying31 rfl rfl (seg_getM (i := 4) (p := i) rfl LN OG)) ?_
      refine At.wqn ?_
      refine At.wp (some 88) (P_move rfl rfl) ?_
      refine At.wp (some 89) (P_xor_w UK.u64 rfl rfl rfl) ?_
      refine At.wp (some 90) (P_nilCheck rfl rfl) ?_
      refine At.wp (some 91) (P_fieldAddr0 (off := 10) rfl Try.underlying38 rfl sz34 rfl rfl) ?_
      refine At.wqn ?_
      refine At.wp (some 92) (P_indexAddr_arr (j := i) rfl Try.underlying34 sz31 rfl rfl RO OG) ?_
      refine At.wqn ?_
      refine At.wp (some 93) (P_nilCheck rfl rfl) ?_
      refine At.wp (some 94) (P_fieldAddr0 (off := 20) rfl Try.underlying38 rfl sz34 rfl rfl) ?_
      refine At.wqn ?_
      refine At.we ?_
      refine S_store none (k := 0) rfl rfl rfl sz31 rfl rfl rfl LN ?_
      refine At.row 0 (⟨true, bl, 0, 38, [(x1).map u64V, (((selI bit x2 x3 i).set i (((selI bit x2 x3 i).getD i 0#64) ^^^ ((-(bit.setWidth 64)) &&& (((selI bit x2 x3 i).getD i 0#64) ^^^ ((selI bit x3 x2 i).getD i 0#64)))))).map u64V, (((selI bit z2 z3 i).set i (((selI bit z2 z3 i).getD i 0#64) ^^^ ((-(bit.setWidth 64)) &&& (((selI bit z2 z3 i).getD i 0#64) ^^^ ((selI bit z3 z2 i).getD i 0#64)))))).map u64V, (((selI bit x3 x2 i).set i (((selI bit x3 x2 i).getD i 0#64) ^^^ ((-(bit.setWidth 64)) &&& (((selI bit x2 x3 i).getD i 0#64) ^^^ ((selI bit x3 x2 i).getD i 0#64)))))).map u64V, ((selI bit z3 z2 i)).map u64V].flatten, 0⟩) rfl (seg_set1M (l := [(x1).map u64V, (((selI bit x2 x3 i).set i (((selI bit x2 x3 i).getD i 0#64) ^^^ ((-(bit.setWidth 64)) &&& (((selI bit x2 x3 i).getD i 0#64) ^^^ ((selI bit x3 x2 i).getD i 0#64)))))).map u64V, ((selI bit z2 z3 i)).map u64V, (((selI bit x3 x2 i).set i (((selI bit x3 x2 i).getD i 0#64) ^^^ ((-(bit.setWidth 64)) &&& (((selI bit x2 x3 i).getD i 0#64) ^^^ ((selI bit x3 x2 i).getD i 0#64)))))).map u64V, ((selI bit z3 z2 i)).map u64V]) (i := 2) (p := i) rfl LN OG) ?_
      refine At.wt rfl ?_
      refine At.p (some 95) (P_indexAddr_arr (j := i) rfl Try.underlying34 sz31 rfl rfl RO OG) ?_
      refine At.s (S_store none (k := 0) rfl rfl rfl sz31 rfl rfl rfl LN ?_)
      refine At.row 0 (⟨true, bl, 0, 38, [(x1).map u64V, (((selI bit x2 x3 i).set i (((selI bit x2 x3 i).getD i 0#64) ^^^ ((-(bit.setWidth 64)) &&& (((selI bit x2 x3 i).getD i 0#64) ^^^ ((selI bit x3 x2 i).getD i 0#64)))))).map u64V, (((selI bit z2 z3 i).set i (((selI bit z2 z3 i).getD i 0#64) ^^^ ((-(bit.setWidth 64)) &&& (((selI bit z2 z3 i).getD i 0#64) ^^^ ((selI bit z3 z2 i).getD i 0#64)))))).map u64V, (((selI bit x3 x2 i).set i (((selI bit x3 x2 i).getD i 0#64) ^^^ ((-(bit.setWidth 64)) &&& (((selI bit x2 x3 i).getD i 0#64) ^^^ ((selI bit x3 x2 i).getD i 0#64)))))).map u64V, (((selI bit z3 z2 i).set i (((selI bit z3 z2 i).getD i 0#64) ^^^ ((-(bit.setWidth 64)) &&& (((selI bit z2 z3 i).getD i 0#64) ^^^ ((selI bit z3 z2 i).getD i 0#64)))))).map u64V].flatten, 0⟩) rfl (seg_set1M (l := [(x1).map u64V, (((selI bit x2 x3 i).set i (((selI bit x2 x3 i).getD i 0#64) ^^^ ((-(bit.setWidth 64)) &&& (((selI bit x2 x3 i).getD i 0#64) ^^^ ((selI bit x3 x2 i).getD i 0#64)))))).map u64V, (((selI bit z2 z3 i).set i (((selI bit z2 z3 i).getD i 0#64) ^^^ ((-(bit.setWidth 64)) &&& (((selI bit z2 z3 i).getD i 0#64) ^^^ ((selI bit z3 z2 i).getD i 0#64)))))).map u64V, (((selI bit x3 x2 i).set i (((selI bit x3 x2 i).getD i 0#64) ^^^ ((-(bit.setWidth 64)) &&& (((selI bit x2 x3 i).getD i 0#64) ^^^ ((selI bit x3 x2 i).getD i 0#64)))))).map u64V, ((selI bit z3 z2 i)).map u64V]) (i := 4) (p := i) rfl LN OG) ?_
      refine At.nil ?_
      refine At.inb_n ?_
      refine At.next ?_
      refine At.region ?_
      refine At.p (some 96) (P_add_i rfl rfl rfl (by omega)) ?_
      refine At.p (some 11) (P_move rfl rfl) ?_
      refine At.nil ?_
      refine At.next ?_
      refine At.to [(0, _), (1, _), (4, _), (8, _), (9, _), (10, _), (11, _)] [(0, ⟨true, bl, 0, 38, [(x1).map u64V, ((selI bit x2 x3 (i + 1))).map u64V, ((selI bit z2 z3 (i + 1))).map u64V, ((selI bit x3 x2 (i + 1))).map u64V, ((selI bit z3 z2 (i + 1))).map u64V].flatten, 0⟩)] (AllL.cons_ (rfl) (AllL.cons_ (rfl) (AllL.cons_ (rfl) (AllL.cons_ (rfl) (AllL.cons_ (rfl) (AllL.cons_ (rfl) (AllL.cons_ (rfl) trivial))))))) (AllL.cons_ ((by rw [← sel_step hbit hx2 hx3 (by omega), ← sel_step hbit hz2 hz3 (by omega), ← sel_step2 hbit hx2 hx3 (by omega), ← sel_step2 hbit hz2 hz3 (by omega)]; rfl)) trivial) ?_
      exact hKc0 _ _ _ (by omega) ⟨i + 1, rfl, rfl, rfl, (by omega)⟩
    · -- cond 12 f
      have e12 : ¬ (i : Int) < 5 := of_decide_eq_false h12
      refine At.exit ?_
      refine At.thn_e ?_
      refine At.thn_e ?_
      refine At.inb_hit ?_
      obtain rfl : i = 5 := by omega
      have hr0 : [(x1).map u64V, ((selI bit x2 x3 5)).map u64V, ((selI bit z2 z3 5)).map u64V, ((selI bit x3 x2 5)).map u64V, ((selI bit z3 z2 5)).map u64V].flatten = [(x1).map u64V, (selB bit x2 x3).map u64V, (selB bit z2 z3).map u64V, (selB bit x3 x2).map u64V, (selB bit z3 z2).map u64V].flatten := (by rw [← selI_all hx2 hx3, ← selI_all hz2 hz3, ← selI_all hx3 hx2, ← selI_all hz3 hz2])
      refine At.give (.inr rfl) [0] (rows' := [_]) (vs := []) rfl trivial rfl (by simp) (by simp) ⟨(by first | (rw [hr0]; try rfl; done) | (rw [← hr0]; try rfl; done) | (simp only [hr0]; try rfl; done) | (simp only [← hr0]; try rfl; done) | rfl), (by first | (rw [hr0]; try rfl; done) | (rw [← hr0]; try rfl; done) | (simp only [hr0]; try rfl; done) | (simp only [← hr0]; try rfl; done) | rfl)⟩

end Go.Proofs.Ytnhjmapapbhhpaa
