import Derived.Test.YtcjfkmhijfcciaaDoorXC1
import Derived.Test.YtcjfkmhijfcciaaDoorG1
import Derived.Lib.Mul64
namespace Go.Proofs.YtcjfkmhijfcciaaDoor
set_option maxRecDepth 20000
set_option linter.unusedVariables false
set_option linter.unusedSimpArgs false
open Go.SE Go.RowKit
theorem ext_add : ExtAdd Tryd.prog 73 := run_callFunc_extern Tryd.func73 (by kernel_rfl) (by kernel_rfl) (by kernel_rfl) (by kernel_rfl)
abbrev g3 (h : List (BitVec 64)) (i : Nat) : BitVec 64 := h.getD i 0#64
def aggN (l : List (BitVec 64)) : Value := .agg (l.map u64V).toArray
def plusS (h x : List (BitVec 64)) : List (BitVec 64) :=
 [g3 h 0 + g3 x 0 + 0#64, g3 h 1 + g3 x 1 + cy (g3 h 0) (g3 x 0) 0#64, g3 h 2 + g3 x 2 + cy (g3 h 1) (g3 x 1) (cy (g3 h 0) (g3 x 0) 0#64)]
def wideH (hi lo a b : BitVec 64) : BitVec 64 := hi + mulH a b + cy lo (a * b) 0#64
def wideL (lo a b : BitVec 64) : BitVec 64 := lo + a * b + 0#64
def le64 (l : List (BitVec 8)) (o : Nat) : Nat → BitVec 64
 | 0 => 0#64
 | n + 1 => le64 l o n ||| ((l.getD (o + n) 0#8).setWidth 64) <<< (8 * n)
theorem c_wide (hi lo a b : BitVec 64) :
  Con Tryd.prog 74 [u64V hi, u64V lo, u64V a, u64V b] [] (fun v rs => v = .tuple #[u64V (wideH hi lo a b), u64V (wideL lo a b)] ∧ rs = []) := by
 refine Con.enter Tryd.func74 Tryd.ntmps74 (Nat.le_of_ble_eq_true rfl) rfl fun w => ?_
 refine At.seq ?_
 refine At.region ?_
 refine At.p (some 8) (P_assign rfl rfl) ?_
 refine At.p (some 9) (P_assign rfl rfl) ?_
 refine At.nil ?_
 refine At.next ?_
 refine At.seq ?_
 refine At.region ?_
 refine At.p (some 14) (P_move rfl rfl) ?_
 refine At.p (some 15) (P_move rfl rfl) ?_
 refine At.s (S_callV (some 16) [] [] (vs := [_, _]) rfl en70 rfl V0 (by simp) (c_mul _ _) (by rintro _ _ ⟨rfl, rfl⟩; rfl) ?_)
 rintro _ _ ⟨rfl, rfl⟩
 refine At.p (some 13) (P_move rfl rfl) ?_
 refine At.p (some 17) (P_extract rfl rfl rfl) ?_
 refine At.p (some 18) (P_extract rfl rfl rfl) ?_
 refine At.p (some 10) (P_assign rfl rfl) ?_
 refine At.p (some 11) (P_assign rfl rfl) ?_
 refine At.nil ?_
 refine At.next ?_
 refine At.seq ?_
 refine At.region ?_
 refine At.p (some 20) (P_move rfl rfl) ?_
 refine At.p (some 21) (P_move rfl rfl) ?_
 refine At.p (some 22) (P_add64 (c := 0#64) ext_add rfl rfl rfl rfl (by decide)) ?_
 refine At.p (some 19) (P_move rfl rfl) ?_
 refine At.p (some 23) (P_extract rfl rfl rfl) ?_
 refine At.p (some 24) (P_extract rfl rfl rfl) ?_
 refine At.p (some 1) (P_assign rfl rfl) ?_
 refine At.p (some 12) (P_assign rfl rfl) ?_
 refine At.nil ?_
 refine At.next ?_
 refine At.seq ?_
 refine At.region ?_
 refine At.p (some 25) (P_move rfl rfl) ?_
 refine At.p (some 26) (P_move rfl rfl) ?_
 refine At.p (some 27) (P_add_w UK.u64 rfl rfl rfl) ?_
 refine At.p (some 28) (P_move rfl rfl) ?_
 refine At.p (some 29) (P_add_w UK.u64 rfl rfl rfl) ?_
 refine At.p (some 30) (P_move rfl rfl) ?_
 refine At.p (some 8) (P_assign rfl rfl) ?_
 refine At.p (some 9) (P_assign rfl rfl) ?_
 refine At.nil ?_
 refine At.next ?_
 refine At.ret ?_
 refine At.give (.inl rfl) [] (rows' := []) (vs := [_, _]) rfl ⟨rfl, rfl, trivial⟩ rfl (by simp) (by simp) ⟨rfl, rfl⟩

theorem c_plus (h x : List (BitVec 64)) (hh : h.length = 3) (hx : x.length = 3) :
  Con Tryd.prog 62 [aggN h, aggN x] [] (fun v rs => v = aggN (plusS h x) ∧ rs = []) := by
 refine Con.enter Tryd.func62 Tryd.ntmps62 (Nat.le_of_ble_eq_true rfl) rfl fun w => ?_
 refine At.seq ?_
 have hpl : (plusS h x).length = 3 := rfl
 refine At.region ?_
 refine At.s (S_box (some 2) 2 (zs := h.map u64V) rfl rfl rfl (fun b2 => ?_))
 refine At.s (S_box (some 3) 3 (zs := x.map u64V) rfl rfl rfl (fun b3 => ?_))
 refine At.s (S_alloc (some 4) 4 (zs := [0#64, 0#64, 0#64].map u64V) rfl ze111 rfl (fun b4 => ?_))
 refine At.nil ?_
 refine At.next ?_
 refine At.seq ?_
 refine At.region ?_
 refine At.p (some 9) (P_indexAddr_arr1 (j := 0) rfl Tryd.underlying111 sz26 rfl rfl rfl (by decide)) ?_
 refine At.q (some 10) (Q_loadM (k := 2) (0#64) rfl rfl Tryd.underlying26 rfl rfl WD) ?_
 refine At.p (some 11) (P_indexAddr_arr1 (j := 0) rfl Tryd.underlying111 sz26 rfl rfl rfl (by decide)) ?_
 refine At.q (some 12) (Q_loadM (k := 3) (0#64) rfl rfl Tryd.underlying26 rfl rfl WD) ?_
 refine At.p (some 13) (P_add64 (c := 0#64) ext_add rfl rfl rfl rfl (by decide)) ?_
 refine At.p (some 8) (P_move rfl rfl) ?_
 refine At.p (some 14) (P_extract rfl rfl rfl) ?_
 refine At.p (some 15) (P_extract rfl rfl rfl) ?_
 refine At.p (some 5) (P_assign rfl rfl) ?_
 refine At.p (some 6) (P_assign rfl rfl) ?_
 refine At.nil ?_
 refine At.next ?_
 refine At.seq ?_
 refine At.region ?_
 refine At.p (some 17) (P_indexAddr_arr1 (j := 1) rfl Tryd.underlying111 sz26 rfl rfl rfl (by decide)) ?_
 refine At.q (some 18) (Q_loadM (k := 2) (0#64) rfl rfl Tryd.underlying26 rfl rfl WD) ?_
 refine At.p (some 19) (P_indexAddr_arr1 (j := 1) rfl Tryd.underlying111 sz26 rfl rfl rfl (by decide)) ?_
 refine At.q (some 20) (Q_loadM (k := 3) (0#64) rfl rfl Tryd.underlying26 rfl rfl WD) ?_
 refine At.p (some 21) (P_move rfl rfl) ?_
 refine At.p (some 22) (P_add64 ext_add rfl rfl rfl rfl (by first | exact cy_le (by decide) | exact cy_le (cy_le (by decide)) | exact cy_le (cy_le (cy_le (by decide))))) ?_
 refine At.p (some 16) (P_move rfl rfl) ?_
 refine At.p (some 23) (P_extract rfl rfl rfl) ?_
 refine At.p (some 24) (P_extract rfl rfl rfl) ?_
 refine At.p (some 7) (P_assign rfl rfl) ?_
 refine At.p (some 6) (P_assign rfl rfl) ?_
 refine At.nil ?_
 refine At.next ?_
 refine At.seq ?_
 refine At.region ?_
 refine At.p (some 25) (P_move rfl rfl) ?_
 refine At.p (some 26) (P_move rfl rfl) ?_
 refine At.p (some 27) (P_indexAddr_arr1 (j := 2) rfl Tryd.underlying111 sz26 rfl rfl rfl (by decide)) ?_
 refine At.q (some 28) (Q_loadM (k := 2) (0#64) rfl rfl Tryd.underlying26 rfl rfl WD) ?_
 refine At.p (some 29) (P_indexAddr_arr1 (j := 2) rfl Tryd.underlying111 sz26 rfl rfl rfl (by decide)) ?_
 refine At.q (some 30) (Q_loadM (k := 3) (0#64) rfl rfl Tryd.underlying26 rfl rfl WD) ?_
 refine At.p (some 31) (P_add_w UK.u64 rfl rfl rfl) ?_
 refine At.p (some 32) (P_move rfl rfl) ?_
 refine At.p (some 33) (P_add_w UK.u64 rfl rfl rfl) ?_
 refine At.p (some 34) (P_build_arr (cs := ((plusS h x).map u64V).toArray) (parts := _) (vs := [(0, _), (1, _), (2, _)]) rfl Tryd.underlying111 sz26 ze111 rfl rfl) ?_
 refine At.s (S_storeA none (k := 4) (vs := _) rfl rfl rfl (by first | (rw [sz111]; simp <;> omega) | exact sz111) rfl WA WB rfl WC ?_)
 refine At.nil ?_
 refine At.next ?_
 refine At.ret ?_
 refine At.giveV (.inl rfl) [] (rows' := []) (ResV.cellA (k := 4) rfl rfl Tryd.underlying111 rfl sz111 (by first | (simp <;> omega) | rfl) rfl) rfl (by simp) (by simp) ?_
 exact ⟨rfl, rfl⟩

theorem c_little (A : Option Addr) (l : List (BitVec 8)) (ca bq q : Nat) (hA : 0 < l.length → A = some ⟨bq, q, none⟩) (hca : l.length ≤ ca) :
  Con Tryd.prog 61 [.slice A l.length ca] [pRow bq q l] (fun v rs => v = u64V (le64 l 0 (min l.length 8)) ∧ rs = []) := by
 refine Con.enter Tryd.func61 Tryd.ntmps61 (Nat.le_of_ble_eq_true rfl) rfl fun w => ?_
 refine At.seq ?_
 obtain ⟨n, hn⟩ : ∃ n, n = min l.length 8 := ⟨_, rfl⟩
 refine At.region ?_
 refine At.p (some 2) (P_assign rfl rfl) ?_
 refine At.nil ?_
 refine At.next ?_
 refine At.seq ?_
 refine At.region ?_
 refine At.p (some 3) (P_assign rfl rfl) ?_
 refine At.nil ?_
 refine At.next ?_
 refine At.seq ?_
 refine At.seq ?_
 refine At.region ?_
 refine At.p (some 6) (P_move rfl rfl) ?_
 refine At.p (some 7) (P_move rfl rfl) ?_
 refine At.p (some 8) (P_len_sl rfl rfl ⟨_, Tryd.underlying36⟩ rfl) ?_
 refine At.p (some 9) (P_min2 rfl rfl rfl rfl) ?_
 refine At.p (some 10) (P_slice_sl (h := n) rfl Tryd.underlying36 sz5 rfl rfl ⟨_, _, rfl, by omega⟩ rfl (by omega) (by omega) (by omega)) ?_
 refine At.p (some 11) (P_len_sl rfl rfl ⟨_, Tryd.underlying36⟩ rfl) ?_
 refine At.p (some 12) (P_move rfl rfl) ?_
 refine At.nil ?_
 refine At.next ?_
 refine At.block ?_
 refine At.loopx (I := fun m fr H => ∃ j, m = n - j ∧ fr = frOf [(3, u64V (le64 l 0 j)), (10, .slice (cut A 0 ca 1) n ca), (11, iV (n : Int)), (12, iV (j : Int))] ∧ H = hOf [(0, pRow bq q l)] ∧ j ≤ n) ?_ ?_
 ·
  intro Kc0 hKc0
  refine At.to [(3, _), (10, _), (11, _), (12, _)] [(0, _)] (AllL.cons_ (rfl) (AllL.cons_ (rfl) (AllL.cons_ (rfl) (AllL.cons_ (rfl) trivial)))) (AllL.cons_ (rfl) trivial) ?_
  exact hKc0 _ _ _ ⟨0, rfl, rfl, rfl, by omega⟩
 ·
  rintro m fr H ⟨j, rfl, rfl, rfl, hj⟩ Kc0 hKc0
  refine At.seq ?_
  refine At.region ?_
  refine At.p (some 13) (P_cmp rfl rfl rfl rfl rfl rfl) ?_
  refine At.nil ?_
  refine At.next ?_
  refine At.seq ?_
  refine At.cond rfl (fun h13 => ?_) (fun h13 => ?_)
  · -- cond 13 t
   have hlt : j < n := by simp at h13; omega
   refine At.skip ?_
   refine At.next ?_
   refine At.seq ?_
   refine At.block ?_
   refine At.seq ?_
   refine At.region ?_
   refine At.p (some 14) (P_move rfl rfl) ?_
   refine At.p (some 15) (P_indexAddr_sl1 rfl Tryd.underlying36 sz5 rfl (cut_zero (hA (by omega))) rfl rfl (by omega)) ?_
   refine At.q (some 16) (Q_loadR (l := l) (k := 0) (j := j) (0#8) rfl rfl Tryd.underlying5 rfl rfl rfl (by omega)) ?_
   refine At.p (some 4) (P_assign rfl rfl) ?_
   refine At.p (some 5) (P_assign rfl rfl) ?_
   refine At.nil ?_
   refine At.next ?_
   refine At.region ?_
   refine At.p (some 17) (P_move rfl rfl) ?_
   refine At.p (some 18) (P_move rfl rfl) ?_
   refine At.p (some 19) (P_conv_ww UK.u64 (m := 8) rfl Tryd.underlying5 Tryd.underlying26 rfl) ?_
   refine At.p (some 20) (P_move rfl rfl) ?_
   refine At.p (some 21) (P_mul_i rfl rfl rfl (by omega)) ?_
   refine At.p (some 22) (P_shl_w UK.u64 (n := 64) rfl rfl rfl (by first | decide | omega)) ?_
   refine At.p (some 23) (P_or_w UK.u64 rfl rfl rfl) ?_
   refine At.p (some 3) (P_assign rfl rfl) ?_
   refine At.nil ?_
   refine At.inb_n ?_
   refine At.next ?_
   refine At.region ?_
   refine At.p (some 24) (P_add_i rfl rfl rfl (by omega)) ?_
   refine At.p (some 12) (P_move rfl rfl) ?_
   refine At.nil ?_
   refine At.next ?_
   refine At.to [(3, u64V (le64 l 0 (j + 1))), (10, _), (11, _), (12, _)] [(0, _)] (AllL.cons_ (by rw [show u64V (le64 l 0 (j + 1)) = _ from congrArg u64V (show le64 l 0 (j + 1) = le64 l 0 j ||| ((l.getD j 0#8).setWidth 64) <<< (8 * (j : Int)).toNat from by rw [show (8 * (j : Int)).toNat = 8 * j by omega, le64, Nat.zero_add])]; rfl) (AllL.cons_ (rfl) (AllL.cons_ (rfl) (AllL.cons_ (rfl) trivial)))) (AllL.cons_ (rfl) trivial) ?_
   exact hKc0 _ _ _ (by omega) ⟨j + 1, rfl, rfl, rfl, by omega⟩
  · -- cond 13 f
   obtain rfl : j = n := by simp at h13; omega
   subst hn
   refine At.exit ?_
   refine At.thn_e ?_
   refine At.thn_e ?_
   refine At.inb_hit ?_
   refine At.next ?_
   refine At.seq ?_
   refine At.region ?_
   refine At.p (some 25) (P_move rfl rfl) ?_
   refine At.p (some 2) (P_assign rfl rfl) ?_
   refine At.nil ?_
   refine At.next ?_
   refine At.ret ?_
   refine At.give (.inl rfl) [] (rows' := []) (vs := [_]) rfl ⟨rfl, trivial⟩ rfl (by simp) (by simp) ⟨rfl, rfl⟩

theorem c_littleN {A : Option Addr} {l : List (BitVec 8)} {n ca bq q : Nat} (hn : l.length = n) (hA : 0 < n → A = some ⟨bq, q, none⟩) (hca : n ≤ ca) : Con Tryd.prog 61 [.slice A n ca] [pRow bq q l] (fun v rs => v = u64V (le64 l 0 (min n 8)) ∧ rs = []) := by
 subst hn
 exact c_little A l ca bq q hA hca
def part0 (l : List (BitVec 8)) : List (BitVec 64) := [le64 l 0 (min l.length 8), if 8 < l.length then le64 (l.drop 8) 0 (min (l.length - 8) 8) else 0#64, 0#64]
def partS (l : List (BitVec 8)) : List (BitVec 64) := (part0 l).set (l.length / 8) (g3 (part0 l) (l.length / 8) ||| 1#64 <<< (8 * (l.length % 8)))
theorem partS_len (l : List (BitVec 8)) : (partS l).length = 3 := by simp [partS, part0]

theorem c_part (A : Option Addr) (l : List (BitVec 8)) (ca bq q : Nat) (hA : 0 < l.length → A = some ⟨bq, q, none⟩) (hca : l.length ≤ ca) (hl : l.length ≤ 16) :
  Con Tryd.prog 63 [.slice A l.length ca] [pRow bq q l] (fun v rs => v = aggN (partS l) ∧ rs = []) := by
 refine Con.enter Tryd.func63 Tryd.ntmps63 (Nat.le_of_ble_eq_true rfl) rfl fun w => ?_
 refine At.seq ?_
 refine At.region ?_
 refine At.s (S_alloc (some 2) 2 (zs := [0#64, 0#64, 0#64].map u64V) rfl ze111 rfl (fun b2 => ?_))
 refine At.nil ?_
 refine At.next ?_
 refine At.seq ?_
 refine At.region ?_
 refine At.p (some 4) (P_move rfl rfl) ?_
 refine At.s (S_callV (some 5) [(0, _)] [] (vs := [_]) rfl en61 rfl (VN (by simp) rfl View.all V0) (by simp) (c_littleN (l := l) rfl hA hca) (by rintro _ _ ⟨rfl, rfl⟩; rfl) ?_)
 rintro _ _ ⟨rfl, rfl⟩
 refine At.p (some 6) (P_build_arr (cs := ([le64 l 0 (min l.length 8), 0#64, 0#64].map u64V).toArray) (parts := _) (vs := [(0, _), (1, _), (2, _)]) rfl Tryd.underlying111 sz26 ze111 rfl rfl) ?_
 refine At.s (S_alloc (some 3) 3 (zs := [0#64, 0#64, 0#64].map u64V) rfl ze111 rfl (fun b3 => ?_))
 refine At.s (S_storeA none (k := 3) (vs := _) rfl rfl rfl (by first | (rw [sz111]; simp <;> omega) | exact sz111) rfl WA WB rfl WC ?_)
 refine At.nil ?_
 refine At.next ?_
 refine At.seq ?_
 refine At.seq ?_
 refine At.region ?_
 refine At.p (some 7) (P_move rfl rfl) ?_
 refine At.p (some 8) (P_len_sl rfl rfl ⟨_, Tryd.underlying36⟩ rfl) ?_
 refine At.p (some 9) (P_cmp rfl rfl rfl rfl rfl rfl) ?_
 refine At.nil ?_
 refine At.next ?_
 refine At.cond rfl (fun h9 => ?_) (fun h9 => ?_)
 · -- cond 9 t
  have hgt : 8 < l.length := by simp at h9; omega
  have hp0 : part0 l = [le64 l 0 (min l.length 8), le64 (l.drop 8) 0 (min (l.length - 8) 8), 0#64] := by rw [part0, if_pos hgt]
  refine At.region ?_
  refine At.p (some 10) (P_move rfl rfl) ?_
  refine At.p (some 11) (P_slice_sl (l := 8) rfl Tryd.underlying36 sz5 rfl ⟨_, _, rfl, rfl⟩ rfl rfl (by omega) (by omega) (by omega)) ?_
  refine At.s (S_callV (some 12) [(0, _)] [] (vs := [_]) rfl en61 rfl (VN (by simp) rfl (View.sub (j := 8) (m := l.length - 8) rfl (by rw [List.take_of_length_le (by simp)])) V0) (by simp) (c_littleN (l := l.drop 8) (n := l.length - 8) (q := q + 8) (by simp) (fun h => cut_addr1 (hA (by omega)) (by omega)) (by omega)) (by rintro _ _ ⟨rfl, rfl⟩; rfl) ?_)
  rintro _ _ ⟨rfl, rfl⟩
  refine At.p (some 13) (P_indexAddr_arr1 (j := 1) rfl Tryd.underlying111 sz26 rfl rfl rfl (by decide)) ?_
  refine At.s (S_storeM none (f := u64V) (k := 3) rfl rfl rfl sz26 rfl rfl rfl WD ?_)
  refine At.nil ?_
  refine At.next ?_
  refine At.seq ?_
  refine At.draws 10 [] [.q false [0, 1, 2, 3, 4, 5, 6, 7, 8, 9]] (by kernel_rfl) (by kernel_rfl) ?_
  refine At.wp (some 14) (P_move rfl rfl) ?_
  refine At.wp (some 15) (P_len_sl rfl rfl ⟨_, Tryd.underlying36⟩ rfl) ?_
  refine At.wp (some 16) (P_quo_i rfl rfl rfl (by omega) (by omega) (by first | decide | omega)) ?_
  refine At.wp (some 17) (P_indexAddr_arr1 (j := l.length / 8) rfl Tryd.underlying111 sz26 rfl rfl (by omega) (by omega)) ?_
  refine At.wq (some 18) (Q_loadM (k := 3) (0#64) rfl rfl Tryd.underlying26 rfl rfl WD) ?_
  refine At.wp (some 19) (P_move rfl rfl) ?_
  refine At.wp (some 20) (P_len_sl rfl rfl ⟨_, Tryd.underlying36⟩ rfl) ?_
  refine At.wp (some 21) (P_rem_i rfl rfl rfl (by omega) (by first | decide | omega)) ?_
  refine At.wp (some 22) (P_mul_i rfl rfl rfl (by omega)) ?_
  refine At.wp (some 23) (P_shl_w UK.u64 (n := 64) (a := 1#64) rfl rfl rfl (by first | decide | omega)) ?_
  refine At.wqn ?_
  refine At.wt rfl ?_
  refine At.p (some 24) (P_or_w UK.u64 rfl rfl rfl) ?_
  refine At.p (some 25) (P_indexAddr_arr1 (j := l.length / 8) rfl Tryd.underlying111 sz26 rfl rfl (by omega) (by omega)) ?_
  refine At.s (S_storeM none (f := u64V) (k := 3) rfl rfl rfl sz26 rfl rfl rfl WD ?_)
  refine At.nil ?_
  refine At.next ?_
  refine At.seq ?_
  refine At.region ?_
  refine At.q (some 26) (Q_loadA (k := 3) rfl rfl Tryd.underlying111 rfl sz111 WD rfl) ?_
  refine At.s (S_storeA none (k := 2) (vs := _) rfl rfl rfl (by first | (rw [sz111]; simp <;> omega) | exact sz111) rfl WA WB rfl WC ?_)
  refine At.nil ?_
  refine At.next ?_
  refine At.ret ?_
  refine At.giveV (.inl rfl) [] (rows' := []) (ResV.cellA (k := 2) rfl rfl Tryd.underlying111 rfl sz111 (by first | (simp <;> omega) | rfl) rfl) rfl (by simp) (by simp) ?_
  exact ⟨by rw [partS, hp0, show (8 * ((l.length : Int) % 8)).toNat = 8 * (l.length % 8) by omega]; rfl, rfl⟩
 · -- cond 9 f
  have hgt : ¬ 8 < l.length := by simp at h9; omega
  have hp0 : part0 l = [le64 l 0 (min l.length 8), 0#64, 0#64] := by rw [part0, if_neg hgt]
  refine At.skip ?_
  refine At.next ?_
  refine At.seq ?_
  refine At.draws 10 [] [.q false [0, 1, 2, 3, 4, 5, 6, 7, 8, 9]] (by kernel_rfl) (by kernel_rfl) ?_
  refine At.wp (some 14) (P_move rfl rfl) ?_
  refine At.wp (some 15) (P_len_sl rfl rfl ⟨_, Tryd.underlying36⟩ rfl) ?_
  refine At.wp (some 16) (P_quo_i rfl rfl rfl (by omega) (by omega) (by first | decide | omega)) ?_
  refine At.wp (some 17) (P_indexAddr_arr1 (j := l.length / 8) rfl Tryd.underlying111 sz26 rfl rfl (by omega) (by omega)) ?_
  refine At.wq (some 18) (Q_loadM (k := 3) (0#64) rfl rfl Tryd.underlying26 rfl rfl WD) ?_
  refine At.wp (some 19) (P_move rfl rfl) ?_
  refine At.wp (some 20) (P_len_sl rfl rfl ⟨_, Tryd.underlying36⟩ rfl) ?_
  refine At.wp (some 21) (P_rem_i rfl rfl rfl (by omega) (by first | decide | omega)) ?_
  refine At.wp (some 22) (P_mul_i rfl rfl rfl (by omega)) ?_
  refine At.wp (some 23) (P_shl_w UK.u64 (n := 64) (a := 1#64) rfl rfl rfl (by first | decide | omega)) ?_
  refine At.wqn ?_
  refine At.wt rfl ?_
  refine At.p (some 24) (P_or_w UK.u64 rfl rfl rfl) ?_
  refine At.p (some 25) (P_indexAddr_arr1 (j := l.length / 8) rfl Tryd.underlying111 sz26 rfl rfl (by omega) (by omega)) ?_
  refine At.s (S_storeM none (f := u64V) (k := 3) rfl rfl rfl sz26 rfl rfl rfl WD ?_)
  refine At.nil ?_
  refine At.next ?_
  refine At.seq ?_
  refine At.region ?_
  refine At.q (some 26) (Q_loadA (k := 3) rfl rfl Tryd.underlying111 rfl sz111 WD rfl) ?_
  refine At.s (S_storeA none (k := 2) (vs := _) rfl rfl rfl (by first | (rw [sz111]; simp <;> omega) | exact sz111) rfl WA WB rfl WC ?_)
  refine At.nil ?_
  refine At.next ?_
  refine At.ret ?_
  refine At.giveV (.inl rfl) [] (rows' := []) (ResV.cellA (k := 2) rfl rfl Tryd.underlying111 rfl sz111 (by first | (simp <;> omega) | rfl) rfl) rfl (by simp) (by simp) ?_
  exact ⟨by rw [partS, hp0, show (8 * ((l.length : Int) % 8)).toNat = 8 * (l.length % 8) by omega]; rfl, rfl⟩

def timesS (h : List (BitVec 64)) (r0 r1 : BitVec 64) : List (BitVec 64) :=
 let h0 := mulH (g3 h 0) r0; let l0 := g3 h 0 * r0
 let h1 := wideH 0#64 0#64 (g3 h 0) r1; let l1 := wideL 0#64 (g3 h 0) r1
 let h1' := wideH h1 l1 (g3 h 1) r0; let l1' := wideL l1 (g3 h 1) r0
 let h2 := wideH 0#64 0#64 (g3 h 1) r1; let l2 := wideL 0#64 (g3 h 1) r1
 let h2' := wideH h2 l2 (g3 h 2) r0; let l2' := wideL l2 (g3 h 2) r0
 let l3 := g3 h 2 * r1
 let t1 := l1' + h0 + 0#64; let c1 := cy l1' h0 0#64
 let t2 := l2' + h1' + c1; let c2 := cy l2' h1' c1
 let t3 := l3 + h2' + c2
 let out := [l0, t1, t2 &&& 3#64]
 let over := [t2 &&& ~~~ 3#64, t3, 0#64]
 let quarter := [(t2 &&& ~~~ 3#64) >>> 2 ||| t3 <<< 62, t3 >>> 2, 0#64]
 plusS (plusS out over) quarter

theorem c_times (h : List (BitVec 64)) (r0 r1 : BitVec 64) (hh : h.length = 3) :
  Con Tryd.prog 64 [aggN h, u64V r0, u64V r1] [] (fun v rs => v = aggN (timesS h r0 r1) ∧ rs = []) := by
 refine Con.enter Tryd.func64 Tryd.ntmps64 (Nat.le_of_ble_eq_true rfl) rfl fun w => ?_
 refine At.seq ?_
 refine At.region ?_
 refine At.s (S_box (some 3) 3 (zs := h.map u64V) rfl rfl rfl (fun b3 => ?_))
 refine At.s (S_alloc (some 6) 6 (zs := [0#64, 0#64, 0#64].map u64V) rfl ze111 rfl (fun b6 => ?_))
 refine At.nil ?_
 refine At.next ?_
 refine At.seq ?_
 refine At.region ?_
 refine At.p (some 24) (P_indexAddr_arr1 (j := 0) rfl Tryd.underlying111 sz26 rfl rfl rfl (by decide)) ?_
 refine At.q (some 25) (Q_loadM (k := 3) (0#64) rfl rfl Tryd.underlying26 rfl rfl WD) ?_
 refine At.p (some 26) (P_move rfl rfl) ?_
 refine At.s (S_callV (some 27) [] [] (vs := [_, _]) rfl en70 rfl V0 (by simp) (c_mul _ _) (by rintro _ _ ⟨rfl, rfl⟩; rfl) ?_)
 rintro _ _ ⟨rfl, rfl⟩
 refine At.p (some 23) (P_move rfl rfl) ?_
 refine At.p (some 28) (P_extract rfl rfl rfl) ?_
 refine At.p (some 29) (P_extract rfl rfl rfl) ?_
 refine At.p (some 7) (P_assign rfl rfl) ?_
 refine At.p (some 8) (P_assign rfl rfl) ?_
 refine At.nil ?_
 refine At.next ?_
 refine At.seq ?_
 refine At.region ?_
 refine At.p (some 31) (P_indexAddr_arr1 (j := 0) rfl Tryd.underlying111 sz26 rfl rfl rfl (by decide)) ?_
 refine At.q (some 32) (Q_loadM (k := 3) (0#64) rfl rfl Tryd.underlying26 rfl rfl WD) ?_
 refine At.p (some 33) (P_move rfl rfl) ?_
 refine At.s (S_callV (some 34) [] [] (vs := [_, _, _, _]) rfl en74 rfl V0 (by simp) (c_wide 0#64 0#64 _ _) (by rintro _ _ ⟨rfl, rfl⟩; rfl) ?_)
 rintro _ _ ⟨rfl, rfl⟩
 refine At.p (some 30) (P_move rfl rfl) ?_
 refine At.p (some 35) (P_extract rfl rfl rfl) ?_
 refine At.p (some 36) (P_extract rfl rfl rfl) ?_
 refine At.p (some 9) (P_assign rfl rfl) ?_
 refine At.p (some 10) (P_assign rfl rfl) ?_
 refine At.nil ?_
 refine At.next ?_
 refine At.seq ?_
 refine At.region ?_
 refine At.p (some 38) (P_move rfl rfl) ?_
 refine At.p (some 39) (P_move rfl rfl) ?_
 refine At.p (some 40) (P_indexAddr_arr1 (j := 1) rfl Tryd.underlying111 sz26 rfl rfl rfl (by decide)) ?_
 refine At.q (some 41) (Q_loadM (k := 3) (0#64) rfl rfl Tryd.underlying26 rfl rfl WD) ?_
 refine At.p (some 42) (P_move rfl rfl) ?_
 refine At.s (S_callV (some 43) [] [] (vs := [_, _, _, _]) rfl en74 rfl V0 (by simp) (c_wide _ _ _ _) (by rintro _ _ ⟨rfl, rfl⟩; rfl) ?_)
 rintro _ _ ⟨rfl, rfl⟩
 refine At.p (some 37) (P_move rfl rfl) ?_
 refine At.p (some 44) (P_extract rfl rfl rfl) ?_
 refine At.p (some 45) (P_extract rfl rfl rfl) ?_
 refine At.p (some 9) (P_assign rfl rfl) ?_
 refine At.p (some 10) (P_assign rfl rfl) ?_
 refine At.nil ?_
 refine At.next ?_
 refine At.seq ?_
 refine At.region ?_
 refine At.p (some 47) (P_indexAddr_arr1 (j := 1) rfl Tryd.underlying111 sz26 rfl rfl rfl (by decide)) ?_
 refine At.q (some 48) (Q_loadM (k := 3) (0#64) rfl rfl Tryd.underlying26 rfl rfl WD) ?_
 refine At.p (some 49) (P_move rfl rfl) ?_
 refine At.s (S_callV (some 50) [] [] (vs := [_, _, _, _]) rfl en74 rfl V0 (by simp) (c_wide 0#64 0#64 _ _) (by rintro _ _ ⟨rfl, rfl⟩; rfl) ?_)
 rintro _ _ ⟨rfl, rfl⟩
 refine At.p (some 46) (P_move rfl rfl) ?_
 refine At.p (some 51) (P_extract rfl rfl rfl) ?_
 refine At.p (some 52) (P_extract rfl rfl rfl) ?_
 refine At.p (some 11) (P_assign rfl rfl) ?_
 refine At.p (some 12) (P_assign rfl rfl) ?_
 refine At.nil ?_
 refine At.next ?_
 refine At.seq ?_
 refine At.region ?_
 refine At.p (some 54) (P_move rfl rfl) ?_
 refine At.p (some 55) (P_move rfl rfl) ?_
 refine At.p (some 56) (P_indexAddr_arr1 (j := 2) rfl Tryd.underlying111 sz26 rfl rfl rfl (by decide)) ?_
 refine At.q (some 57) (Q_loadM (k := 3) (0#64) rfl rfl Tryd.underlying26 rfl rfl WD) ?_
 refine At.p (some 58) (P_move rfl rfl) ?_
 refine At.s (S_callV (some 59) [] [] (vs := [_, _, _, _]) rfl en74 rfl V0 (by simp) (c_wide _ _ _ _) (by rintro _ _ ⟨rfl, rfl⟩; rfl) ?_)
 rintro _ _ ⟨rfl, rfl⟩
 refine At.p (some 53) (P_move rfl rfl) ?_
 refine At.p (some 60) (P_extract rfl rfl rfl) ?_
 refine At.p (some 61) (P_extract rfl rfl rfl) ?_
 refine At.p (some 11) (P_assign rfl rfl) ?_
 refine At.p (some 12) (P_assign rfl rfl) ?_
 refine At.nil ?_
 refine At.next ?_
 refine At.seq ?_
 refine At.region ?_
 refine At.p (some 62) (P_indexAddr_arr1 (j := 2) rfl Tryd.underlying111 sz26 rfl rfl rfl (by decide)) ?_
 refine At.q (some 63) (Q_loadM (k := 3) (0#64) rfl rfl Tryd.underlying26 rfl rfl WD) ?_
 refine At.p (some 64) (P_move rfl rfl) ?_
 refine At.p (some 65) (P_mul_w UK.u64 rfl rfl rfl) ?_
 refine At.p (some 13) (P_assign rfl rfl) ?_
 refine At.nil ?_
 refine At.next ?_
 refine At.seq ?_
 refine At.region ?_
 refine At.p (some 66) (P_move rfl rfl) ?_
 refine At.p (some 14) (P_assign rfl rfl) ?_
 refine At.nil ?_
 refine At.next ?_
 refine At.seq ?_
 refine At.region ?_
 refine At.p (some 68) (P_move rfl rfl) ?_
 refine At.p (some 69) (P_move rfl rfl) ?_
 refine At.p (some 70) (P_add64 (c := 0#64) ext_add rfl rfl rfl rfl (by decide)) ?_
 refine At.p (some 67) (P_move rfl rfl) ?_
 refine At.p (some 71) (P_extract rfl rfl rfl) ?_
 refine At.p (some 72) (P_extract rfl rfl rfl) ?_
 refine At.p (some 15) (P_assign rfl rfl) ?_
 refine At.p (some 16) (P_assign rfl rfl) ?_
 refine At.nil ?_
 refine At.next ?_
 refine At.seq ?_
 refine At.region ?_
 refine At.p (some 74) (P_move rfl rfl) ?_
 refine At.p (some 75) (P_move rfl rfl) ?_
 refine At.p (some 76) (P_move rfl rfl) ?_
 refine At.p (some 77) (P_add64 ext_add rfl rfl rfl rfl (by first | exact cy_le (by decide) | exact cy_le (cy_le (by decide)) | exact cy_le (cy_le (cy_le (by decide))))) ?_
 refine At.p (some 73) (P_move rfl rfl) ?_
 refine At.p (some 78) (P_extract rfl rfl rfl) ?_
 refine At.p (some 79) (P_extract rfl rfl rfl) ?_
 refine At.p (some 17) (P_assign rfl rfl) ?_
 refine At.p (some 16) (P_assign rfl rfl) ?_
 refine At.nil ?_
 refine At.next ?_
 refine At.seq ?_
 refine At.region ?_
 refine At.p (some 81) (P_move rfl rfl) ?_
 refine At.p (some 82) (P_move rfl rfl) ?_
 refine At.p (some 83) (P_move rfl rfl) ?_
 refine At.p (some 84) (P_add64 ext_add rfl rfl rfl rfl (by first | exact cy_le (by decide) | exact cy_le (cy_le (by decide)) | exact cy_le (cy_le (cy_le (by decide))))) ?_
 refine At.p (some 80) (P_move rfl rfl) ?_
 refine At.p (some 85) (P_extract rfl rfl rfl) ?_
 refine At.p (some 86) (P_extract rfl rfl rfl) ?_
 refine At.p (some 18) (P_assign rfl rfl) ?_
 refine At.p (some 19) (P_assign rfl rfl) ?_
 refine At.nil ?_
 refine At.next ?_
 refine At.seq ?_
 refine At.region ?_
 refine At.p (some 87) (P_move rfl rfl) ?_
 refine At.p (some 88) (P_move rfl rfl) ?_
 refine At.p (some 89) (P_move rfl rfl) ?_
 refine At.p (some 90) (P_and_w UK.u64 (b := 3#64) rfl rfl rfl) ?_
 refine At.p (some 91) (P_build_arr (cs := (([_, _, _] : List (BitVec 64)).map u64V).toArray) (parts := _) (vs := [(0, _), (1, _), (2, _)]) rfl Tryd.underlying111 sz26 ze111 rfl rfl) ?_
 refine At.s (S_alloc (some 20) 20 (zs := [0#64, 0#64, 0#64].map u64V) rfl ze111 rfl (fun b20 => ?_))
 refine At.s (S_storeA none (k := 20) (vs := _) rfl rfl rfl (by first | (rw [sz111]; simp <;> omega) | exact sz111) rfl WA WB rfl WC ?_)
 refine At.nil ?_
 refine At.next ?_
 refine At.seq ?_
 refine At.region ?_
 refine At.p (some 92) (P_move rfl rfl) ?_
 refine At.p (some 93) (P_andNot_w UK.u64 (b := 3#64) rfl rfl rfl) ?_
 refine At.p (some 94) (P_move rfl rfl) ?_
 refine At.p (some 95) (P_build_arr (cs := (([_, _, 0#64] : List (BitVec 64)).map u64V).toArray) (parts := _) (vs := [(0, _), (1, _), (2, _)]) rfl Tryd.underlying111 sz26 ze111 rfl rfl) ?_
 refine At.s (S_alloc (some 21) 21 (zs := [0#64, 0#64, 0#64].map u64V) rfl ze111 rfl (fun b21 => ?_))
 refine At.s (S_storeA none (k := 21) (vs := _) rfl rfl rfl (by first | (rw [sz111]; simp <;> omega) | exact sz111) rfl WA WB rfl WC ?_)
 refine At.nil ?_
 refine At.next ?_
 refine At.seq ?_
 refine At.region ?_
 refine At.p (some 96) (P_indexAddr_arr1 (j := 0) rfl Tryd.underlying111 sz26 rfl rfl rfl (by decide)) ?_
 refine At.q (some 97) (Q_loadM (k := 21) (0#64) rfl rfl Tryd.underlying26 rfl rfl WD) ?_
 refine At.p (some 98) (P_shr_w UK.u64 (n := 64) rfl rfl rfl (by first | decide | omega)) ?_
 refine At.p (some 99) (P_indexAddr_arr1 (j := 1) rfl Tryd.underlying111 sz26 rfl rfl rfl (by decide)) ?_
 refine At.q (some 100) (Q_loadM (k := 21) (0#64) rfl rfl Tryd.underlying26 rfl rfl WD) ?_
 refine At.p (some 101) (P_shl_w UK.u64 (n := 64) rfl rfl rfl (by first | decide | omega)) ?_
 refine At.p (some 102) (P_or_w UK.u64 rfl rfl rfl) ?_
 refine At.p (some 103) (P_indexAddr_arr1 (j := 1) rfl Tryd.underlying111 sz26 rfl rfl rfl (by decide)) ?_
 refine At.q (some 104) (Q_loadM (k := 21) (0#64) rfl rfl Tryd.underlying26 rfl rfl WD) ?_
 refine At.p (some 105) (P_shr_w UK.u64 (n := 64) rfl rfl rfl (by first | decide | omega)) ?_
 refine At.p (some 106) (P_build_arr (cs := (([_, _, 0#64] : List (BitVec 64)).map u64V).toArray) (parts := _) (vs := [(0, _), (1, _), (2, _)]) rfl Tryd.underlying111 sz26 ze111 rfl rfl) ?_
 refine At.s (S_alloc (some 22) 22 (zs := [0#64, 0#64, 0#64].map u64V) rfl ze111 rfl (fun b22 => ?_))
 refine At.s (S_storeA none (k := 22) (vs := _) rfl rfl rfl (by first | (rw [sz111]; simp <;> omega) | exact sz111) rfl WA WB rfl WC ?_)
 refine At.nil ?_
 refine At.next ?_
 refine At.seq ?_
 refine At.draws 4 [] [.q false [0, 1, 2, 3]] (by kernel_rfl) (by kernel_rfl) ?_
 refine At.wq (some 107) (Q_loadA (k := 20) rfl rfl Tryd.underlying111 rfl sz111 WD rfl) ?_
 refine At.wq (some 108) (Q_loadA (k := 21) rfl rfl Tryd.underlying111 rfl sz111 WD rfl) ?_
 refine At.wcV (some 109) [] (vs := [_, _]) rfl en62 rfl V0 (c_plus [_, _, _] [_, _, 0#64] rfl rfl) ?_
 refine At.wq (some 110) (Q_loadA (k := 22) rfl rfl Tryd.underlying111 rfl sz111 WD rfl) ?_
 refine At.wqn ?_
 refine At.wt rfl ?_
 refine At.s (S_callV (some 111) [] [] (vs := [_, _]) rfl en62 rfl V0 (by simp) (c_plus (plusS _ _) [_, _, 0#64] rfl rfl) (by rintro _ _ ⟨rfl, rfl⟩; rfl) ?_)
 rintro _ _ ⟨rfl, rfl⟩
 refine At.s (S_storeA none (k := 6) (vs := _) rfl rfl rfl (by first | (rw [sz111]; simp <;> omega) | exact sz111) rfl WA WB rfl WC ?_)
 refine At.nil ?_
 refine At.next ?_
 refine At.ret ?_
 refine At.giveV (.inl rfl) [] (rows' := []) (ResV.cellA (k := 6) rfl rfl Tryd.underlying111 rfl sz111 (by first | (simp <;> omega) | rfl) rfl) rfl (by simp) (by simp) ?_
 exact ⟨rfl, rfl⟩

def redStep (h : List (BitVec 64)) : List (BitVec 64) := plusS (h.set 2 (g3 h 2 &&& 3#64)) [5#64 * g3 h 2 >>> 2, 0#64, 0#64]
def redN (h : List (BitVec 64)) : Nat → List (BitVec 64)
 | 0 => h
 | n + 1 => redStep (redN h n)
theorem redN_len {h : List (BitVec 64)} (hh : h.length = 3) (n : Nat) : (redN h n).length = 3 := by
 cases n with
 | zero => exact hh
 | succ n => rfl
def redS (h : List (BitVec 64)) : List (BitVec 64) :=
 if g3 (plusS (redN h 2) [5#64, 0#64, 0#64]) 2 >>> 2 ≠ 0#64 then (plusS (redN h 2) [5#64, 0#64, 0#64]).set 2 (g3 (plusS (redN h 2) [5#64, 0#64, 0#64]) 2 &&& 3#64) else redN h 2
theorem redS_len {h : List (BitVec 64)} (hh : h.length = 3) : (redS h).length = 3 := by
 unfold redS
 split
 · rfl
 · exact redN_len hh 2

theorem c_reduced (h : List (BitVec 64)) (hh : h.length = 3) :
  Con Tryd.prog 65 [aggN h] [] (fun v rs => v = aggN (redS h) ∧ rs = []) := by
 refine Con.enter Tryd.func65 Tryd.ntmps65 (Nat.le_of_ble_eq_true rfl) rfl fun w => ?_
 refine At.seq ?_
 refine At.region ?_
 refine At.s (S_box (some 1) 1 (zs := h.map u64V) rfl rfl rfl (fun b1 => ?_))
 refine At.s (S_alloc (some 2) 2 (zs := [0#64, 0#64, 0#64].map u64V) rfl ze111 rfl (fun b2 => ?_))
 refine At.nil ?_
 refine At.next ?_
 refine At.seq ?_
 refine At.seq ?_
 refine At.region ?_
 refine At.p (some 5) (P_move rfl rfl) ?_
 refine At.nil ?_
 refine At.next ?_
 refine At.block ?_
 refine At.loopx (I := fun m fr H => ∃ i, m = 2 - i ∧ fr = frOf [(1, ptr b1 0), (2, ptr b2 0), (5, iV (i : Int))] ∧ H = hOf [(1, ⟨true, b1, 0, 111, (redN h i).map u64V, 0⟩), (2, ⟨true, b2, 0, 111, [0#64, 0#64, 0#64].map u64V, 0⟩)] ∧ i ≤ 2) ?_ ?_
 ·
  intro Kc0 hKc0
  refine At.to [(1, _), (2, _), (5, _)] [(1, _), (2, _)] (AllL.cons_ (rfl) (AllL.cons_ (rfl) (AllL.cons_ (rfl) trivial))) (AllL.cons_ (rfl) (AllL.cons_ (rfl) trivial)) ?_
  exact hKc0 _ _ _ ⟨0, rfl, rfl, rfl, by omega⟩
 ·
  rintro m fr H ⟨i, rfl, rfl, rfl, hi⟩ Kc0 hKc0
  refine At.seq ?_
  refine At.region ?_
  refine At.p (some 6) (P_cmp rfl rfl rfl rfl rfl rfl) ?_
  refine At.nil ?_
  refine At.next ?_
  refine At.seq ?_
  refine At.cond rfl (fun h6 => ?_) (fun h6 => ?_)
  · -- cond 6 t
   have hlt : i < 2 := by simp at h6; omega
   have hl : (redN h i).length = 3 := redN_len hh i
   have hps : ∀ a b : List (BitVec 64), (plusS a b).length = 3 := fun _ _ => rfl
   refine At.skip ?_
   refine At.next ?_
   refine At.seq ?_
   refine At.block ?_
   refine At.seq ?_
   refine At.region ?_
   refine At.p (some 7) (P_indexAddr_arr1 (j := 2) rfl Tryd.underlying111 sz26 rfl rfl rfl (by decide)) ?_
   refine At.q (some 8) (Q_loadM (k := 1) (0#64) rfl rfl Tryd.underlying26 rfl rfl WD) ?_
   refine At.p (some 9) (P_shr_w UK.u64 (n := 64) rfl rfl rfl (by first | decide | omega)) ?_
   refine At.p (some 3) (P_assign rfl rfl) ?_
   refine At.nil ?_
   refine At.next ?_
   refine At.seq ?_
   refine At.region ?_
   refine At.p (some 10) (P_indexAddr_arr1 (j := 2) rfl Tryd.underlying111 sz26 rfl rfl rfl (by decide)) ?_
   refine At.q (some 11) (Q_loadM (k := 1) (0#64) rfl rfl Tryd.underlying26 rfl rfl WD) ?_
   refine At.p (some 12) (P_and_w UK.u64 (b := 3#64) rfl rfl rfl) ?_
   refine At.p (some 13) (P_indexAddr_arr1 (j := 2) rfl Tryd.underlying111 sz26 rfl rfl rfl (by decide)) ?_
   refine At.s (S_storeM none (f := u64V) (k := 1) rfl rfl rfl sz26 rfl rfl rfl WD ?_)
   refine At.nil ?_
   refine At.next ?_
   refine At.region ?_
   refine At.q (some 14) (Q_loadA (k := 1) rfl rfl Tryd.underlying111 rfl sz111 WD rfl) ?_
   refine At.p (some 15) (P_move rfl rfl) ?_
   refine At.p (some 16) (P_mul_w UK.u64 (a := 5#64) rfl rfl rfl) ?_
   refine At.p (some 17) (P_build_arr (cs := ([5#64 * g3 (redN h i) 2 >>> 2, 0#64, 0#64].map u64V).toArray) (parts := _) (vs := [(0, _), (1, _), (2, _)]) rfl Tryd.underlying111 sz26 ze111 rfl rfl) ?_
   refine At.s (S_callV (some 18) [] [] (vs := [_, _]) rfl en62 rfl V0 (by simp) (c_plus ((redN h i).set 2 (g3 (redN h i) 2 &&& 3#64)) [5#64 * g3 (redN h i) 2 >>> 2, 0#64, 0#64] (by rw [List.length_set]; exact hl) rfl) (by rintro _ _ ⟨rfl, rfl⟩; rfl) ?_)
   rintro _ _ ⟨rfl, rfl⟩
   refine At.s (S_storeA none (k := 1) (vs := _) rfl rfl rfl (by first | (rw [sz111]; simp <;> omega) | exact sz111) rfl WA WB rfl WC ?_)
   refine At.nil ?_
   refine At.inb_n ?_
   refine At.next ?_
   refine At.region ?_
   refine At.p (some 19) (P_add_i rfl rfl rfl (by omega)) ?_
   refine At.p (some 5) (P_move rfl rfl) ?_
   refine At.nil ?_
   refine At.next ?_
   refine At.to [(1, _), (2, _), (5, _)] [(1, ⟨true, b1, 0, 111, (redN h (i + 1)).map u64V, 0⟩), (2, _)] (AllL.cons_ (rfl) (AllL.cons_ (rfl) (AllL.cons_ (rfl) trivial))) (AllL.cons_ (rfl) (AllL.cons_ (rfl) trivial)) ?_
   exact hKc0 _ _ _ (by omega) ⟨i + 1, rfl, rfl, rfl, by omega⟩
  · -- cond 6 f
   obtain rfl : i = 2 := by simp at h6; omega
   have hl : (redN h 2).length = 3 := redN_len hh 2
   have hp3 : (plusS (redN h 2) [5#64, 0#64, 0#64]).length = 3 := rfl
   refine At.exit ?_
   refine At.thn_e ?_
   refine At.thn_e ?_
   refine At.inb_hit ?_
   refine At.next ?_
   refine At.seq ?_
   refine At.region ?_
   refine At.q (some 20) (Q_loadA (k := 1) rfl rfl Tryd.underlying111 rfl sz111 WD rfl) ?_
   refine At.p (some 21) (P_build_arr (cs := ([5#64, 0#64, 0#64].map u64V).toArray) (parts := _) (vs := [(0, _), (1, _), (2, _)]) rfl Tryd.underlying111 sz26 ze111 rfl rfl) ?_
   refine At.s (S_callV (some 22) [] [] (vs := [_, _]) rfl en62 rfl V0 (by simp) (c_plus (redN h 2) [5#64, 0#64, 0#64] hl rfl) (by rintro _ _ ⟨rfl, rfl⟩; rfl) ?_)
   rintro _ _ ⟨rfl, rfl⟩
   refine At.s (S_alloc (some 4) 4 (zs := [0#64, 0#64, 0#64].map u64V) rfl ze111 rfl (fun b4 => ?_))
   refine At.s (S_storeA none (k := 4) (vs := _) rfl rfl rfl (by first | (rw [sz111]; simp <;> omega) | exact sz111) rfl WA WB rfl WC ?_)
   refine At.nil ?_
   refine At.next ?_
   refine At.seq ?_
   refine At.seq ?_
   refine At.region ?_
   refine At.p (some 23) (P_indexAddr_arr1 (j := 2) rfl Tryd.underlying111 sz26 rfl rfl rfl (by decide)) ?_
   refine At.q (some 24) (Q_loadM (k := 4) (0#64) rfl rfl Tryd.underlying26 rfl rfl WD) ?_
   refine At.p (some 25) (P_shr_w UK.u64 (n := 64) rfl rfl rfl (by first | decide | omega)) ?_
   refine At.p (some 26) (P_neq_w (n := 64) (b := 0#64) rfl rfl rfl) ?_
   refine At.nil ?_
   refine At.next ?_
   refine At.cond rfl (fun h26 => ?_) (fun h26 => ?_)
   · -- cond 26 t
    have hr : redS h = (plusS (redN h 2) [5#64, 0#64, 0#64]).set 2 (g3 (plusS (redN h 2) [5#64, 0#64, 0#64]) 2 &&& 3#64) := if_pos (by simpa using h26)
    refine At.seq ?_
    refine At.region ?_
    refine At.p (some 27) (P_indexAddr_arr1 (j := 2) rfl Tryd.underlying111 sz26 rfl rfl rfl (by decide)) ?_
    refine At.q (some 28) (Q_loadM (k := 4) (0#64) rfl rfl Tryd.underlying26 rfl rfl WD) ?_
    refine At.p (some 29) (P_and_w UK.u64 (b := 3#64) rfl rfl rfl) ?_
    refine At.p (some 30) (P_indexAddr_arr1 (j := 2) rfl Tryd.underlying111 sz26 rfl rfl rfl (by decide)) ?_
    refine At.s (S_storeM none (f := u64V) (k := 4) rfl rfl rfl sz26 rfl rfl rfl WD ?_)
    refine At.nil ?_
    refine At.next ?_
    refine At.seq ?_
    refine At.region ?_
    refine At.q (some 31) (Q_loadA (k := 4) rfl rfl Tryd.underlying111 rfl sz111 WD rfl) ?_
    refine At.s (S_storeA none (k := 2) (vs := _) rfl rfl rfl (by first | (rw [sz111]; simp <;> omega) | exact sz111) rfl WA WB rfl WC ?_)
    refine At.nil ?_
    refine At.next ?_
    refine At.ret ?_
    refine At.thn_r ?_
    refine At.giveV (.inl rfl) [] (rows' := []) (ResV.cellA (k := 2) rfl rfl Tryd.underlying111 rfl sz111 (by first | (simp <;> omega) | rfl) rfl) rfl (by simp) (by simp) ?_
    exact ⟨by rw [hr]; rfl, rfl⟩
   · -- cond 26 f
    have hr : redS h = redN h 2 := if_neg (by simpa using h26)
    refine At.skip ?_
    refine At.next ?_
    refine At.seq ?_
    refine At.region ?_
    refine At.q (some 32) (Q_loadA (k := 1) rfl rfl Tryd.underlying111 rfl sz111 WD rfl) ?_
    refine At.s (S_storeA none (k := 2) (vs := _) rfl rfl rfl (by first | (rw [sz111]; simp <;> omega) | exact sz111) rfl WA WB rfl WC ?_)
    refine At.nil ?_
    refine At.next ?_
    refine At.ret ?_
    refine At.giveV (.inl rfl) [] (rows' := []) (ResV.cellA (k := 2) rfl rfl Tryd.underlying111 rfl sz111 (by first | (simp <;> omega) | rfl) rfl) rfl (by simp) (by simp) ?_
    exact ⟨by rw [hr]; rfl, rfl⟩

def rLo (key : List (BitVec 8)) : BitVec 64 := le64 (key.take 8) 0 8 &&& 1152921487695413247#64
def rHi (key : List (BitVec 8)) : BitVec 64 := le64 ((key.drop 8).take 8) 0 8 &&& 1152921487695413244#64
def blkQ (l : List (BitVec 8)) (n : Nat) : List (BitVec 8) := (l.drop (16 * n)).take 16
def pTo (key l : List (BitVec 8)) : Nat → List (BitVec 64)
 | 0 => [0#64, 0#64, 0#64]
 | n + 1 => timesS (plusS (pTo key l n) (partS (blkQ l n))) (rLo key) (rHi key)
theorem hTo_lenQ (key l : List (BitVec 8)) (n : Nat) : (pTo key l n).length = 3 := by cases n <;> rfl
def nBlk (l : List (BitVec 8)) : Nat := (l.length + 15) / 16
def tagW (key l : List (BitVec 8)) : List (BitVec 64) := plusS (redS (pTo key l (nBlk l))) [le64 ((key.drop 16).take 8) 0 8, le64 ((key.drop 24).take 8) 0 8, 0#64]
def tagAt (w : List (BitVec 64)) (i : Nat) : BitVec 8 := (g3 w (i / 8) >>> (8 * (i % 8))).setWidth 8
def tagTo (w : List (BitVec 64)) (n : Nat) : List (BitVec 8) := (List.range n).map (tagAt w) ++ List.replicate (16 - n) 0#8
theorem tagTo_len {w : List (BitVec 64)} {n : Nat} (h : n ≤ 16) : (tagTo w n).length = 16 := by simp [tagTo]; omega
theorem tagTo_set {w : List (BitVec 64)} {n : Nat} (h : n < 16) : (tagTo w n).set n (tagAt w n) = tagTo w (n + 1) := fill_set (tagAt w) 0#8 h
def tagS (key l : List (BitVec 8)) : List (BitVec 8) := (List.range 16).map (tagAt (tagW key l))

theorem c_partN {A : Option Addr} {l : List (BitVec 8)} {n ca bq q : Nat} (hn : l.length = n) (hA : 0 < n → A = some ⟨bq, q, none⟩) (hca : n ≤ ca) (hl : n ≤ 16) : Con Tryd.prog 63 [.slice A n ca] [pRow bq q l] (fun v rs => v = aggN (partS l) ∧ rs = []) := by
 subst hn
 exact c_part A l ca bq q hA hca hl

theorem c_Tag (key l : List (BitVec 8)) (A : Option Addr) (ca bq q : Nat) (hkey : key.length = 32) (hA : 0 < l.length → A = some ⟨bq, q, none⟩) (hca : l.length ≤ ca) (hl : l.length ≤ 1000000) :
  Con Tryd.prog 49 [aggK key, .slice A l.length ca] [pRow bq q l] (fun v rs => v = aggK (tagS key l) ∧ rs = []) := by
 refine Con.enter Tryd.func49 Tryd.ntmps49 (Nat.le_of_ble_eq_true rfl) rfl fun w => ?_
 refine At.seq ?_
 have hk32 : key.length = 32 := hkey
 refine At.region ?_
 refine At.s (S_box (some 2) 2 (zs := key.map u8V) rfl rfl rfl (fun b2 => ?_))
 refine At.s (S_alloc (some 4) 4 (zs := (List.replicate 16 0#8).map u8V) rfl ze72 rfl (fun b4 => ?_))
 refine At.nil ?_
 refine At.next ?_
 refine At.seq ?_
 refine At.draws 7 [] [.q false [0, 1, 2, 3, 4, 5, 6]] (by kernel_rfl) (by kernel_rfl) ?_
 refine At.wp (some 12) (P_slice_arr1 (h := 8) rfl Tryd.underlying22 sz5 rfl rfl ⟨_, _, rfl, rfl⟩ rfl (by omega) (by omega) (by omega) (by omega)) ?_
 refine At.wcV (some 13) [(2, _)] (vs := [_]) rfl en61 rfl (VN (by simp) rfl (View.sub (j := 0) (m := 8) rfl rfl) V0) (c_littleN (l := (key.drop 0).take 8) (n := 8) (bq := b2) (q := 0) (by simp; omega) (fun _ => rfl) (by decide)) ?_
 refine At.wp (some 14) (P_and_w UK.u64 (b := 1152921487695413247#64) rfl rfl rfl) ?_
 refine At.wp (some 15) (P_slice_arr1 (l := 8) (h := 16) rfl Tryd.underlying22 sz5 rfl ⟨_, _, rfl, rfl⟩ ⟨_, _, rfl, rfl⟩ rfl (by omega) (by omega) (by omega) (by omega)) ?_
 refine At.wcV (some 16) [(2, _)] (vs := [_]) rfl en61 rfl (VN (by simp) rfl (View.sub (j := 8) (m := 8) rfl rfl) V0) (c_littleN (l := (key.drop 8).take 8) (n := 8) (bq := b2) (q := 8) (by simp; omega) (fun _ => rfl) (by decide)) ?_
 refine At.wp (some 17) (P_and_w UK.u64 (b := 1152921487695413244#64) rfl rfl rfl) ?_
 refine At.wp (some 5) (P_assign rfl rfl) ?_
 refine At.wqn ?_
 refine At.wt rfl ?_
 refine At.p (some 6) (P_assign rfl rfl) ?_
 refine At.nil ?_
 refine At.next ?_
 refine At.seq ?_
 refine At.region ?_
 refine At.s (S_alloc (some 7) 7 (zs := (pTo key l 0).map u64V) rfl ze111 rfl (fun b7 => ?_))
 refine At.nil ?_
 refine At.next ?_
 refine At.seq ?_
 refine At.block ?_
 refine At.loopx (I := fun m fr H => ∃ n An cn, m = l.length + 16 - 16 * n ∧ fr = frOf [(1, .slice An (l.length - 16 * n) cn), (2, ptr b2 0), (4, ptr b4 0), (5, u64V (rLo key)), (6, u64V (rHi key)), (7, ptr b7 0)] ∧ H = hOf [(0, pRow bq q l), (2, ⟨true, b2, 0, 22, key.map u8V, 0⟩), (4, ⟨true, b4, 0, 72, (List.replicate 16 0#8).map u8V, 0⟩), (7, ⟨true, b7, 0, 111, (pTo key l n).map u64V, 0⟩)] ∧ (16 * n < l.length → An = some ⟨bq, q + 16 * n, none⟩) ∧ l.length - 16 * n ≤ cn ∧ 16 * n < l.length + 16) ?_ ?_
 ·
  intro Kc0 hKc0
  refine At.to [(1, _), (2, _), (4, _), (5, _), (6, _), (7, _)] [(0, _), (2, _), (4, _), (7, _)] (AllL.cons_ (rfl) (AllL.cons_ (rfl) (AllL.cons_ (rfl) (AllL.cons_ (rfl) (AllL.cons_ (rfl) (AllL.cons_ (rfl) trivial)))))) (AllL.cons_ (rfl) (AllL.cons_ (rfl) (AllL.cons_ (rfl) (AllL.cons_ (rfl) trivial)))) ?_
  exact hKc0 _ _ _ ⟨0, A, ca, rfl, rfl, rfl, fun h => hA (by omega), by omega, by omega⟩
 ·
  rintro m fr H ⟨n, An, cn, rfl, rfl, rfl, hAn, hcn, hnn⟩ Kc0 hKc0
  refine At.seq ?_
  refine At.seq ?_
  refine At.region ?_
  refine At.p (some 18) (P_move rfl rfl) ?_
  refine At.p (some 19) (P_len_sl rfl rfl ⟨_, Tryd.underlying36⟩ rfl) ?_
  refine At.p (some 20) (P_cmp rfl rfl rfl rfl rfl rfl) ?_
  refine At.nil ?_
  refine At.next ?_
  refine At.cond rfl (fun h20 => ?_) (fun h20 => ?_)
  · -- cond 20 t
   have hlt : 16 * n < l.length := by simp at h20; omega
   have hh3 : (pTo key l n).length = 3 := hTo_lenQ _ _ _
   have ht3 : ∀ (a : List (BitVec 64)) (b c : BitVec 64), (timesS a b c).length = 3 := fun _ _ _ => rfl
   refine At.skip ?_
   refine At.next ?_
   refine At.block ?_
   refine At.seq ?_
   refine At.region ?_
   refine At.p (some 21) (P_move rfl rfl) ?_
   refine At.p (some 22) (P_len_sl rfl rfl ⟨_, Tryd.underlying36⟩ rfl) ?_
   refine At.p (some 23) (P_min2 rfl rfl rfl rfl) ?_
   refine At.p (some 8) (P_assign rfl rfl) ?_
   refine At.nil ?_
   refine At.next ?_
   refine At.seq ?_
   refine At.draws 8 [] [.q false [0, 1, 2, 3, 4, 5, 6, 7]] (by kernel_rfl) (by kernel_rfl) ?_
   refine At.wq (some 24) (Q_loadA (k := 7) rfl rfl Tryd.underlying111 rfl sz111 WD rfl) ?_
   refine At.wp (some 25) (P_move rfl rfl) ?_
   refine At.wp (some 26) (P_move rfl rfl) ?_
   refine At.wp (some 27) (P_slice_sl (h := min (l.length - 16 * n) 16) rfl Tryd.underlying36 sz5 rfl rfl ⟨_, _, rfl, by omega⟩ rfl (by omega) (by omega) (by omega)) ?_
   refine At.wcV (some 28) [(0, _)] (vs := [_]) rfl en63 rfl (VN (by simp) rfl (View.sub (j := 16 * n) (m := 16) rfl rfl) V0) (c_partN (l := blkQ l n) (n := min (l.length - 16 * n) 16) (by simp [blkQ]; omega) (fun h => cut_zero (hAn (by omega))) (by omega) (by omega)) ?_
   refine At.wcV (some 29) [] (vs := [_, _]) rfl en62 rfl V0 (c_plus _ _ (hTo_lenQ _ _ _) (partS_len _)) ?_
   refine At.wp (some 30) (P_move rfl rfl) ?_
   refine At.wp (some 31) (P_move rfl rfl) ?_
   refine At.wqn ?_
   refine At.wt rfl ?_
   refine At.s (S_callV (some 32) [] [] (vs := [_, _, _]) rfl en64 rfl V0 (by simp) (c_times _ _ _ rfl) (by rintro _ _ ⟨rfl, rfl⟩; rfl) ?_)
   rintro _ _ ⟨rfl, rfl⟩
   refine At.s (S_storeA none (k := 7) (vs := _) rfl rfl rfl (by first | (rw [sz111]; simp <;> omega) | exact sz111) rfl WA WB rfl WC ?_)
   refine At.nil ?_
   refine At.next ?_
   refine At.region ?_
   refine At.p (some 33) (P_move rfl rfl) ?_
   refine At.p (some 34) (P_move rfl rfl) ?_
   refine At.p (some 35) (P_slice_sl (l := min (l.length - 16 * n) 16) rfl Tryd.underlying36 sz5 rfl ⟨_, _, rfl, by omega⟩ rfl rfl (by omega) (by omega) (by omega)) ?_
   refine At.p (some 1) (P_assign rfl rfl) ?_
   refine At.nil ?_
   refine At.inb_n ?_
   refine At.next ?_
   refine At.to [(1, .slice (cut An (min (l.length - 16 * n) 16) cn 1) (l.length - 16 * (n + 1)) (cn - min (l.length - 16 * n) 16)), (2, _), (4, _), (5, _), (6, _), (7, _)] [(0, _), (2, _), (4, _), (7, ⟨true, b7, 0, 111, (pTo key l (n + 1)).map u64V, 0⟩)] (AllL.cons_ (congrArg (fun z => some (Value.slice (cut An (min (l.length - 16 * n) 16) cn 1) z (cn - min (l.length - 16 * n) 16))) (by omega)) (AllL.cons_ (rfl) (AllL.cons_ (rfl) (AllL.cons_ (rfl) (AllL.cons_ (rfl) (AllL.cons_ (rfl) trivial)))))) (AllL.cons_ (rfl) (AllL.cons_ (rfl) (AllL.cons_ (rfl) (AllL.cons_ (rfl) trivial)))) ?_
   exact hKc0 _ _ _ (by omega) ⟨n + 1, cut An (min (l.length - 16 * n) 16) cn 1, cn - min (l.length - 16 * n) 16, rfl, rfl, rfl, fun h => by rw [cut_addr1 (hAn (by omega)) (by omega)]; congr 2; omega, by omega, by omega⟩
  · -- cond 20 f
   have hge : l.length ≤ 16 * n := by simp at h20; omega
   obtain rfl : n = nBlk l := by unfold nBlk; omega
   have hh3 : (pTo key l (nBlk l)).length = 3 := hTo_lenQ _ _ _
   have hr3 : (redS (pTo key l (nBlk l))).length = 3 := redS_len hh3
   have hw3 : (tagW key l).length = 3 := rfl
   refine At.exit ?_
   refine At.thn_e ?_
   refine At.thn_e ?_
   refine At.inb_hit ?_
   refine At.next ?_
   refine At.seq ?_
   refine At.region ?_
   refine At.q (some 36) (Q_loadA (k := 7) rfl rfl Tryd.underlying111 rfl sz111 WD rfl) ?_
   refine At.s (S_callV (some 37) [] [] (vs := [_]) rfl en65 rfl V0 (by simp) (c_reduced _ (hTo_lenQ _ _ _)) (by rintro _ _ ⟨rfl, rfl⟩; rfl) ?_)
   rintro _ _ ⟨rfl, rfl⟩
   refine At.s (S_storeA none (k := 7) (vs := _) rfl rfl rfl (by first | (rw [sz111]; simp <;> omega) | exact sz111) rfl WA WB rfl WC ?_)
   refine At.nil ?_
   refine At.next ?_
   refine At.seq ?_
   refine At.draws 8 [] [.q false [0, 1, 2, 3, 4, 5, 6], .e false 7] (by kernel_rfl) (by kernel_rfl) ?_
   refine At.wq (some 38) (Q_loadA (k := 7) rfl rfl Tryd.underlying111 rfl sz111 WD rfl) ?_
   refine At.wp (some 39) (P_slice_arr1 (l := 16) (h := 24) rfl Tryd.underlying22 sz5 rfl ⟨_, _, rfl, rfl⟩ ⟨_, _, rfl, rfl⟩ rfl (by omega) (by omega) (by omega) (by omega)) ?_
   refine At.wcV (some 40) [(2, _)] (vs := [_]) rfl en61 rfl (VN (by simp) rfl (View.sub (j := 16) (m := 8) rfl rfl) V0) (c_littleN (l := (key.drop 16).take 8) (n := 8) (bq := b2) (q := 16) (by simp; omega) (fun _ => rfl) (by decide)) ?_
   refine At.wp (some 41) (P_slice_arr1 (l := 24) rfl Tryd.underlying22 sz5 rfl ⟨_, _, rfl, rfl⟩ rfl rfl (by omega) (by omega) (by omega) (by omega)) ?_
   refine At.wcV (some 42) [(2, _)] (vs := [_]) rfl en61 rfl (VN (by simp) rfl (View.sub (j := 24) (m := 8) rfl rfl) V0) (c_littleN (l := (key.drop 24).take 8) (n := 8) (bq := b2) (q := 24) (by simp; omega) (fun _ => rfl) (by decide)) ?_
   refine At.wp (some 43) (P_build_arr (cs := ([le64 ((key.drop 16).take 8) 0 8, le64 ((key.drop 24).take 8) 0 8, 0#64].map u64V).toArray) (parts := _) (vs := [(0, _), (1, _), (2, _)]) rfl Tryd.underlying111 sz26 ze111 rfl rfl) ?_
   refine At.wcV (some 44) [] (vs := [_, _]) rfl en62 rfl V0 (c_plus (redS _) [le64 ((key.drop 16).take 8) 0 8, le64 ((key.drop 24).take 8) 0 8, 0#64] (redS_len (hTo_lenQ _ _ _)) rfl) ?_
   refine At.wqn ?_
   refine At.we ?_
   refine S_alloc (some 9) 9 (zs := [0#64, 0#64, 0#64].map u64V) rfl ze111 rfl (fun b9 => ?_)
   refine At.wt rfl ?_
   refine At.s (S_storeA none (k := 9) (vs := _) rfl rfl rfl (by first | (rw [sz111]; simp <;> omega) | exact sz111) rfl WA WB rfl WC ?_)
   refine At.nil ?_
   refine At.next ?_
   refine At.seq ?_
   refine At.region ?_
   refine At.s (S_alloc (some 10) 10 (zs := (tagTo (tagW key l) 0).map u8V) rfl ze72 rfl (fun b10 => ?_))
   refine At.nil ?_
   refine At.next ?_
   refine At.seq ?_
   refine At.seq ?_
   refine At.region ?_
   refine At.p (some 45) (P_move rfl rfl) ?_
   refine At.nil ?_
   refine At.next ?_
   refine At.block ?_
   refine At.loopx (I := fun m fr H => ∃ i, m = 16 - i ∧ fr = frOf [(4, ptr b4 0), (9, ptr b9 0), (10, ptr b10 0), (45, iV (i : Int))] ∧ H = hOf [(4, ⟨true, b4, 0, 72, (List.replicate 16 0#8).map u8V, 0⟩), (9, ⟨true, b9, 0, 111, (tagW key l).map u64V, 0⟩), (10, ⟨true, b10, 0, 72, (tagTo (tagW key l) i).map u8V, 0⟩)] ∧ i ≤ 16) ?_ ?_
   ·
    intro Kc1 hKc1
    refine At.to [(4, _), (9, _), (10, _), (45, _)] [(4, _), (9, _), (10, _)] (AllL.cons_ (rfl) (AllL.cons_ (rfl) (AllL.cons_ (rfl) (AllL.cons_ (rfl) trivial)))) (AllL.cons_ (rfl) (AllL.cons_ (rfl) (AllL.cons_ (rfl) trivial))) ?_
    exact hKc1 _ _ _ ⟨0, rfl, rfl, rfl, by omega⟩
   ·
    rintro m fr H ⟨i, rfl, rfl, rfl, hi⟩ Kc1 hKc1
    refine At.seq ?_
    refine At.region ?_
    refine At.p (some 46) (P_cmp rfl rfl rfl rfl rfl rfl) ?_
    refine At.nil ?_
    refine At.next ?_
    refine At.seq ?_
    refine At.cond rfl (fun h46 => ?_) (fun h46 => ?_)
    · -- cond 46 t
     have hlt : i < 16 := by simp at h46; omega
     have hto : (tagTo (tagW key l) i).length = 16 := tagTo_len hi
     have hw3 : (tagW key l).length = 3 := rfl
     refine At.skip ?_
     refine At.next ?_
     refine At.seq ?_
     refine At.block ?_
     refine At.seq ?_
     refine At.region ?_
     refine At.p (some 47) (P_move rfl rfl) ?_
     refine At.p (some 11) (P_assign rfl rfl) ?_
     refine At.nil ?_
     refine At.next ?_
     refine At.region ?_
     refine At.p (some 48) (P_move rfl rfl) ?_
     refine At.p (some 49) (P_move rfl rfl) ?_
     refine At.p (some 50) (P_quo_i rfl rfl rfl (by omega) (by omega) (by first | decide | omega)) ?_
     refine At.p (some 51) (P_indexAddr_arr1 (j := i / 8) rfl Tryd.underlying111 sz26 rfl rfl (by omega) (by omega)) ?_
     refine At.q (some 52) (Q_loadM (k := 9) (0#64) rfl rfl Tryd.underlying26 rfl rfl WD) ?_
     refine At.p (some 53) (P_move rfl rfl) ?_
     refine At.p (some 54) (P_rem_i rfl rfl rfl (by omega) (by first | decide | omega)) ?_
     refine At.p (some 55) (P_mul_i rfl rfl rfl (by omega)) ?_
     refine At.p (some 56) (P_shr_w UK.u64 (n := 64) rfl rfl rfl (by first | decide | omega)) ?_
     refine At.p (some 57) (P_conv_ww UK.u8 (m := 64) rfl Tryd.underlying26 Tryd.underlying5 rfl) ?_
     refine At.p (some 58) (P_indexAddr_arr1 rfl Tryd.underlying72 sz5 rfl rfl rfl (by omega)) ?_
     refine At.s (S_storeM none (f := u8V) (k := 10) rfl rfl rfl sz5 rfl rfl rfl WD ?_)
     refine At.nil ?_
     refine At.inb_n ?_
     refine At.next ?_
     refine At.region ?_
     refine At.p (some 59) (P_add_i rfl rfl rfl (by omega)) ?_
     refine At.p (some 45) (P_move rfl rfl) ?_
     refine At.nil ?_
     refine At.next ?_
     refine At.to [(4, _), (9, _), (10, _), (45, _)] [(4, _), (9, _), (10, ⟨true, b10, 0, 72, (tagTo (tagW key l) (i + 1)).map u8V, 0⟩)] (AllL.cons_ (rfl) (AllL.cons_ (rfl) (AllL.cons_ (rfl) (AllL.cons_ (rfl) trivial)))) (AllL.cons_ (rfl) (AllL.cons_ (rfl) (AllL.cons_ (congrArg (fun z => some (⟨true, b10, 0, 72, List.map u8V z, 0⟩ : Row)) (by rw [← tagTo_set hlt, show (8 * ((i : Int) % 8)).toNat = 8 * (i % 8) by omega]; rfl)) trivial))) ?_
     exact hKc1 _ _ _ (by omega) ⟨i + 1, rfl, rfl, rfl, by omega⟩
    · -- cond 46 f
     obtain rfl : i = 16 := by simp at h46; omega
     have hto : (tagTo (tagW key l) 16).length = 16 := tagTo_len hi
     refine At.exit ?_
     refine At.thn_e ?_
     refine At.thn_e ?_
     refine At.inb_hit ?_
     refine At.next ?_
     refine At.seq ?_
     refine At.region ?_
     refine At.q (some 60) (Q_loadA (k := 10) rfl rfl Tryd.underlying72 rfl sz72 WD rfl) ?_
     refine At.s (S_storeA none (k := 4) (vs := _) rfl rfl rfl (by first | (rw [sz72]; simp <;> omega) | exact sz72) rfl WA WB rfl WC ?_)
     refine At.nil ?_
     refine At.next ?_
     refine At.ret ?_
     refine At.giveV (.inl rfl) [] (rows' := []) (ResV.cellA (k := 4) rfl rfl Tryd.underlying72 rfl sz72 ((List.length_map u8V).trans hto) rfl) rfl (by simp) (by simp) ?_
     exact ⟨by simp [tagTo, tagS, aggK], rfl⟩

def valI : List Int → Int
 | [] => 0
 | x :: l => x + 256 * valI l
theorem valI_app : ∀ (l m : List Int), valI (l ++ m) = valI l + 256 ^ l.length * valI m
 | [], m => by simp [valI]
 | a :: l, m => by
  rw [List.cons_append, valI, valI, valI_app l m, List.length_cons, Int.pow_succ, Int.mul_add, Int.mul_comm (256 ^ l.length) 256, Int.mul_assoc]
  omega
/-- The carries have come to place i: what lies below is below 256, what lies there is at most 2 B, behind at most B. -/
def CarI (B : Int) (l : List Int) (i : Nat) : Prop := (∀ j, 0 ≤ l.getD j 0) ∧ (∀ j, j < i → l.getD j 0 < 256) ∧ l.getD i 0 ≤ 2 * B ∧ ∀ j, i < j → l.getD j 0 ≤ B
theorem valI_take (l : List Int) (i : Nat) (h : i < l.length) : valI (l.take (i + 1)) = valI (l.take i) + l.getD i 0 * 256 ^ i := by
 have e : l.take (i + 1) = l.take i ++ [l.getD i 0] := by
  rw [List.take_succ_eq_append_getElem h, List.getD_eq_getElem?_getD, List.getElem?_eq_getElem h]
  rfl
 rw [e, valI_app, List.length_take, Nat.min_eq_left (by omega), valI, valI, Int.mul_comm]
 simp
theorem CarI.init {B : Int} {l : List Int} (h : ∀ j, 0 ≤ l.getD j 0 ∧ l.getD j 0 ≤ B) (hB : 0 ≤ B) : CarI B l 0 :=
 ⟨fun j => (h j).1, fun j hj => absurd hj (by omega), by have := h 0; omega, fun j _ => (h j).2⟩
/-- What lies beyond 130 bits moves to G, up to place i. -/
structure HiI (B V : Int) (L G : List Int) (i : Nat) : Prop where
 len : L.length = 40
 glen : G.length = 40
 val : valI L + 2 ^ 130 * valI G = V
 nn : ∀ j, 0 ≤ L.getD j 0
 lo : ∀ j, j < 39 → L.getD j 0 < 256
 top : L.getD 39 0 ≤ 2 * B
 four : 16 < i → L.getD 16 0 < 4
 zero : ∀ j, 16 < j → j < i → L.getD j 0 = 0
 gnn : ∀ j, 0 ≤ G.getD j 0
 gle : ∀ j, G.getD j 0 ≤ 255 + B
 gat : ∀ j, j + 17 = i → i < 40 → G.getD j 0 ≤ 63
 gz : ∀ j, i ≤ j + 16 → G.getD j 0 = 0
theorem getD_rep (n j : Nat) : (List.replicate n (0 : Int)).getD j 0 = 0 := by
 rw [List.getD_eq_getElem?_getD, List.getElem?_replicate]
 split <;> rfl
theorem valI_rep (n : Nat) : valI (List.replicate n (0 : Int)) = 0 := by
 induction n with
 | zero => rfl
 | succ n ih => rw [List.replicate_succ, valI, ih]; rfl
theorem HiI.init {B V : Int} {L : List Int} (hl : L.length = 40) (hv : valI L = V) (h : CarI B L 39) (hB : 0 ≤ B) : HiI B V L (List.replicate 40 (0 : Int)) 16 := by
 obtain ⟨h1, h2, h3, h4⟩ := h
 refine ⟨hl, by simp, by rw [valI_rep, hv]; omega, h1, fun j hj => h2 j hj, h3, fun h => absurd h (by omega), fun j a b => absurd a (by omega), fun j => ?_, fun j => ?_, fun j _ _ => ?_, fun j _ => getD_rep 40 j⟩
 · rw [getD_rep]; omega
 · rw [getD_rep]; omega
 · rw [getD_rep]; omega
/-- Five times of it is added, up to place i. -/
structure AdI (C : Int) (L G M : List Int) (i : Nat) : Prop where
 len : M.length = 40
 val : valI M = valI L + 5 * valI (G.take i)
 same : ∀ j, i ≤ j → M.getD j 0 = L.getD j 0
 le : ∀ j, 0 ≤ M.getD j 0 ∧ M.getD j 0 ≤ C
theorem HiI.ad {B V C : Int} {L G : List Int} (h : HiI B V L G 40) (hC : 256 ≤ C) : AdI C L G L 0 := by
 refine ⟨h.len, by rw [List.take_zero, valI]; omega, fun _ _ => rfl, fun j => ⟨h.nn j, ?_⟩⟩
 by_cases h1 : j < 39
 ·
  have := h.lo j h1
  omega
 ·
  by_cases h2 : j < 40
  · rw [h.zero j (by omega) h2]; omega
  ·
   rw [List.getD_eq_getElem?_getD, List.getElem?_eq_none (by have := h.len; omega)]
   exact Int.le_trans (by decide) hC
def OutI (V : Int) (O : List Int) : Prop := O.length = 17 ∧ (∀ j, 0 ≤ O.getD j 0 ∧ O.getD j 0 < 256) ∧ valI O = V

end Go.Proofs.YtcjfkmhijfcciaaDoor

