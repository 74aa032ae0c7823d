import Derived.Test.YtcjfkmhijfcciaaXC1
import Derived.Test.YtcjfkmhijfcciaaSE13
import Derived.Lib.Mul64
import Derived.Test.YtcjfkmhijfcciaaSE33
namespace Go.Proofs.Ytcjfkmhijfcciaa
set_option maxRecDepth 20000
set_option linter.unusedVariables false
set_option linter.unusedSimpArgs false
open Go.SE Go.RowKit
theorem ext_add : ExtAdd Try.prog 102 := run_callFunc_extern Try.func102 (by kernel_rfl) (by kernel_rfl) (by kernel_rfl) (by kernel_rfl)
abbrev g3 (h : List (BitVec 64)) (i : Nat) : BitVec 64 := h.getD i 0#64
def aggN (l : List (BitVec 64)) : Value := .agg (l.map u64V).toArray
def plusS (h x : List (BitVec 64)) : List (BitVec 64) :=
 [g3 h 0 + g3 x 0 + 0#64, g3 h 1 + g3 x 1 + cy (g3 h 0) (g3 x 0) 0#64, g3 h 2 + g3 x 2 + cy (g3 h 1) (g3 x 1) (cy (g3 h 0) (g3 x 0) 0#64)]
def wideH (hi lo a b : BitVec 64) : BitVec 64 := hi + mulH a b + cy lo (a * b) 0#64
def wideL (lo a b : BitVec 64) : BitVec 64 := lo + a * b + 0#64
def le64 (l : List (BitVec 8)) (o : Nat) : Nat → BitVec 64
 | 0 => 0#64
 | n + 1 => le64 l o n ||| ((l.getD (o + n) 0#8).setWidth 64) <<< (8 * n)
theorem c_wide (hi lo a b : BitVec 64) :
  Con Try.prog 146 [u64V hi, u64V lo, u64V a, u64V b] [] (fun v rs => v = .tuple #[u64V (wideH hi lo a b), u64V (wideL lo a b)] ∧ rs = []) := by
 refine Con.enter Try.func146 Try.ntmps146 (Nat.le_of_ble_eq_true rfl) rfl fun w => ?_
 refine At.seq ?_
 refine At.region ?_
 refine At.p (some 8) (P_assign rfl rfl) ?_
 refine At.p (some 9) (P_assign rfl rfl) ?_
 refine At.nil ?_
 refine At.next ?_
 refine At.seq ?_
 refine At.region ?_
 refine At.p (some 14) (P_move rfl rfl) ?_
 refine At.p (some 15) (P_move rfl rfl) ?_
 refine At.s (S_callV (some 16) [] [] (vs := [_, _]) rfl en129 rfl V0 (by simp) (c_mul _ _) (by rintro _ _ ⟨rfl, rfl⟩; rfl) ?_)
 rintro _ _ ⟨rfl, rfl⟩
 refine At.p (some 13) (P_move rfl rfl) ?_
 refine At.p (some 17) (P_extract rfl rfl rfl) ?_
 refine At.p (some 18) (P_extract rfl rfl rfl) ?_
 refine At.p (some 10) (P_assign rfl rfl) ?_
 refine At.p (some 11) (P_assign rfl rfl) ?_
 refine At.nil ?_
 refine At.next ?_
 refine At.seq ?_
 refine At.region ?_
 refine At.p (some 20) (P_move rfl rfl) ?_
 refine At.p (some 21) (P_move rfl rfl) ?_
 refine At.p (some 22) (P_add64 (c := 0#64) ext_add rfl rfl rfl rfl (by decide)) ?_
 refine At.p (some 19) (P_move rfl rfl) ?_
 refine At.p (some 23) (P_extract rfl rfl rfl) ?_
 refine At.p (some 24) (P_extract rfl rfl rfl) ?_
 refine At.p (some 1) (P_assign rfl rfl) ?_
 refine At.p (some 12) (P_assign rfl rfl) ?_
 refine At.nil ?_
 refine At.next ?_
 refine At.seq ?_
 refine At.region ?_
 refine At.p (some 25) (P_move rfl rfl) ?_
 refine At.p (some 26) (P_move rfl rfl) ?_
 refine At.p (some 27) (P_add_w UK.u64 rfl rfl rfl) ?_
 refine At.p (some 28) (P_move rfl rfl) ?_
 refine At.p (some 29) (P_add_w UK.u64 rfl rfl rfl) ?_
 refine At.p (some 30) (P_move rfl rfl) ?_
 refine At.p (some 8) (P_assign rfl rfl) ?_
 refine At.p (some 9) (P_assign rfl rfl) ?_
 refine At.nil ?_
 refine At.next ?_
 refine At.ret ?_
 refine At.give (.inl rfl) [] (rows' := []) (vs := [_, _]) rfl ⟨rfl, rfl, trivial⟩ rfl (by simp) (by simp) ⟨rfl, rfl⟩

theorem c_plus (h x : List (BitVec 64)) (hh : h.length = 3) (hx : x.length = 3) :
  Con Try.prog 137 [aggN h, aggN x] [] (fun v rs => v = aggN (plusS h x) ∧ rs = []) := by
 refine Con.enter Try.func137 Try.ntmps137 (Nat.le_of_ble_eq_true rfl) rfl fun w => ?_
 refine At.seq ?_
 have hpl : (plusS h x).length = 3 := rfl
 refine At.region ?_
 refine At.s (S_box (some 2) 2 (zs := h.map u64V) rfl rfl rfl (fun b2 => ?_))
 refine At.s (S_box (some 3) 3 (zs := x.map u64V) rfl rfl rfl (fun b3 => ?_))
 refine At.s (S_alloc (some 4) 4 (zs := [0#64, 0#64, 0#64].map u64V) rfl ze181 rfl (fun b4 => ?_))
 refine At.nil ?_
 refine At.next ?_
 refine At.seq ?_
 refine At.region ?_
 refine At.p (some 9) (P_indexAddr_arr1 (j := 0) rfl Try.underlying181 sz66 rfl rfl rfl (by decide)) ?_
 refine At.q (some 10) (Q_loadM (k := 2) (0#64) rfl rfl Try.underlying66 rfl rfl WD) ?_
 refine At.p (some 11) (P_indexAddr_arr1 (j := 0) rfl Try.underlying181 sz66 rfl rfl rfl (by decide)) ?_
 refine At.q (some 12) (Q_loadM (k := 3) (0#64) rfl rfl Try.underlying66 rfl rfl WD) ?_
 refine At.p (some 13) (P_add64 (c := 0#64) ext_add rfl rfl rfl rfl (by decide)) ?_
 refine At.p (some 8) (P_move rfl rfl) ?_
 refine At.p (some 14) (P_extract rfl rfl rfl) ?_
 refine At.p (some 15) (P_extract rfl rfl rfl) ?_
 refine At.p (some 5) (P_assign rfl rfl) ?_
 refine At.p (some 6) (P_assign rfl rfl) ?_
 refine At.nil ?_
 refine At.next ?_
 refine At.seq ?_
 refine At.region ?_
 refine At.p (some 17) (P_indexAddr_arr1 (j := 1) rfl Try.underlying181 sz66 rfl rfl rfl (by decide)) ?_
 refine At.q (some 18) (Q_loadM (k := 2) (0#64) rfl rfl Try.underlying66 rfl rfl WD) ?_
 refine At.p (some 19) (P_indexAddr_arr1 (j := 1) rfl Try.underlying181 sz66 rfl rfl rfl (by decide)) ?_
 refine At.q (some 20) (Q_loadM (k := 3) (0#64) rfl rfl Try.underlying66 rfl rfl WD) ?_
 refine At.p (some 21) (P_move rfl rfl) ?_
 refine At.p (some 22) (P_add64 ext_add rfl rfl rfl rfl (by first | exact cy_le (by decide) | exact cy_le (cy_le (by decide)) | exact cy_le (cy_le (cy_le (by decide))))) ?_
 refine At.p (some 16) (P_move rfl rfl) ?_
 refine At.p (some 23) (P_extract rfl rfl rfl) ?_
 refine At.p (some 24) (P_extract rfl rfl rfl) ?_
 refine At.p (some 7) (P_assign rfl rfl) ?_
 refine At.p (some 6) (P_assign rfl rfl) ?_
 refine At.nil ?_
 refine At.next ?_
 refine At.seq ?_
 refine At.region ?_
 refine At.p (some 25) (P_move rfl rfl) ?_
 refine At.p (some 26) (P_move rfl rfl) ?_
 refine At.p (some 27) (P_indexAddr_arr1 (j := 2) rfl Try.underlying181 sz66 rfl rfl rfl (by decide)) ?_
 refine At.q (some 28) (Q_loadM (k := 2) (0#64) rfl rfl Try.underlying66 rfl rfl WD) ?_
 refine At.p (some 29) (P_indexAddr_arr1 (j := 2) rfl Try.underlying181 sz66 rfl rfl rfl (by decide)) ?_
 refine At.q (some 30) (Q_loadM (k := 3) (0#64) rfl rfl Try.underlying66 rfl rfl WD) ?_
 refine At.p (some 31) (P_add_w UK.u64 rfl rfl rfl) ?_
 refine At.p (some 32) (P_move rfl rfl) ?_
 refine At.p (some 33) (P_add_w UK.u64 rfl rfl rfl) ?_
 refine At.p (some 34) (P_build_arr (cs := ((plusS h x).map u64V).toArray) (parts := _) (vs := [(0, _), (1, _), (2, _)]) rfl Try.underlying181 sz66 ze181 rfl rfl) ?_
 refine At.s (S_storeA none (k := 4) (vs := _) rfl rfl rfl (by first | (rw [sz181]; simp <;> omega) | exact sz181) rfl WA WB rfl WC ?_)
 refine At.nil ?_
 refine At.next ?_
 refine At.ret ?_
 refine At.giveV (.inl rfl) [] (rows' := []) (ResV.cellA (k := 4) rfl rfl Try.underlying181 rfl sz181 (by first | (simp <;> omega) | rfl) rfl) rfl (by simp) (by simp) ?_
 exact ⟨rfl, rfl⟩

theorem c_little (A : Option Addr) (l : List (BitVec 8)) (ca bq q : Nat) (hA : 0 < l.length → A = some ⟨bq, q, none⟩) (hca : l.length ≤ ca) :
  Con Try.prog 136 [.slice A l.length ca] [pRow bq q l] (fun v rs => v = u64V (le64 l 0 (min l.length 8)) ∧ rs = []) := by
 refine Con.enter Try.func136 Try.ntmps136 (Nat.le_of_ble_eq_true rfl) rfl fun w => ?_
 refine At.seq ?_
 obtain ⟨n, hn⟩ : ∃ n, n = min l.length 8 := ⟨_, rfl⟩
 refine At.region ?_
 refine At.p (some 2) (P_assign rfl rfl) ?_
 refine At.nil ?_
 refine At.next ?_
 refine At.seq ?_
 refine At.region ?_
 refine At.p (some 3) (P_assign rfl rfl) ?_
 refine At.nil ?_
 refine At.next ?_
 refine At.seq ?_
 refine At.seq ?_
 refine At.region ?_
 refine At.p (some 6) (P_move rfl rfl) ?_
 refine At.p (some 7) (P_move rfl rfl) ?_
 refine At.p (some 8) (P_len_sl rfl rfl ⟨_, Try.underlying23⟩ rfl) ?_
 refine At.p (some 9) (P_min2 rfl rfl rfl rfl) ?_
 refine At.p (some 10) (P_slice_sl (h := n) rfl Try.underlying23 sz5 rfl rfl ⟨_, _, rfl, by omega⟩ rfl (by omega) (by omega) (by omega)) ?_
 refine At.p (some 11) (P_len_sl rfl rfl ⟨_, Try.underlying23⟩ rfl) ?_
 refine At.p (some 12) (P_move rfl rfl) ?_
 refine At.nil ?_
 refine At.next ?_
 refine At.block ?_
 refine At.loopx (I := fun m fr H => ∃ j, m = n - j ∧ fr = frOf [(3, u64V (le64 l 0 j)), (10, .slice (cut A 0 ca 1) n ca), (11, iV (n : Int)), (12, iV (j : Int))] ∧ H = hOf [(0, pRow bq q l)] ∧ j ≤ n) ?_ ?_
 ·
  intro Kc0 hKc0
  refine At.to [(3, _), (10, _), (11, _), (12, _)] [(0, _)] (AllL.cons_ (rfl) (AllL.cons_ (rfl) (AllL.cons_ (rfl) (AllL.cons_ (rfl) trivial)))) (AllL.cons_ (rfl) trivial) ?_
  exact hKc0 _ _ _ ⟨0, rfl, rfl, rfl, by omega⟩
 ·
  rintro m fr H ⟨j, rfl, rfl, rfl, hj⟩ Kc0 hKc0
  refine At.seq ?_
  refine At.region ?_
  refine At.p (some 13) (P_cmp rfl rfl rfl rfl rfl rfl) ?_
  refine At.nil ?_
  refine At.next ?_
  refine At.seq ?_
  refine At.cond rfl (fun h13 => ?_) (fun h13 => ?_)
  · -- cond 13 t
   have hlt : j < n := by simp at h13; omega
   refine At.skip ?_
   refine At.next ?_
   refine At.seq ?_
   refine At.block ?_
   refine At.seq ?_
   refine At.region ?_
   refine At.p (some 14) (P_move rfl rfl) ?_
   refine At.p (some 15) (P_indexAddr_sl1 rfl Try.underlying23 sz5 rfl (cut_zero (hA (by omega))) rfl rfl (by omega)) ?_
   refine At.q (some 16) (Q_loadR (l := l) (k := 0) (j := j) (0#8) rfl rfl Try.underlying5 rfl rfl rfl (by omega)) ?_
   refine At.p (some 4) (P_assign rfl rfl) ?_
   refine At.p (some 5) (P_assign rfl rfl) ?_
   refine At.nil ?_
   refine At.next ?_
   refine At.region ?_
   refine At.p (some 17) (P_move rfl rfl) ?_
   refine At.p (some 18) (P_move rfl rfl) ?_
   refine At.p (some 19) (P_conv_ww UK.u64 (m := 8) rfl Try.underlying5 Try.underlying66 rfl) ?_
   refine At.p (some 20) (P_move rfl rfl) ?_
   refine At.p (some 21) (P_mul_i rfl rfl rfl (by omega)) ?_
   refine At.p (some 22) (P_shl_w UK.u64 (n := 64) rfl rfl rfl (by first | decide | omega)) ?_
   refine At.p (some 23) (P_or_w UK.u64 rfl rfl rfl) ?_
   refine At.p (some 3) (P_assign rfl rfl) ?_
   refine At.nil ?_
   refine At.inb_n ?_
   refine At.next ?_
   refine At.region ?_
   refine At.p (some 24) (P_add_i rfl rfl rfl (by omega)) ?_
   refine At.p (some 12) (P_move rfl rfl) ?_
   refine At.nil ?_
   refine At.next ?_
   refine At.to [(3, u64V (le64 l 0 (j + 1))), (10, _), (11, _), (12, _)] [(0, _)] (AllL.cons_ (by rw [show u64V (le64 l 0 (j + 1)) = _ from congrArg u64V (show le64 l 0 (j + 1) = le64 l 0 j ||| ((l.getD j 0#8).setWidth 64) <<< (8 * (j : Int)).toNat from by rw [show (8 * (j : Int)).toNat = 8 * j by omega, le64, Nat.zero_add])]; rfl) (AllL.cons_ (rfl) (AllL.cons_ (rfl) (AllL.cons_ (rfl) trivial)))) (AllL.cons_ (rfl) trivial) ?_
   exact hKc0 _ _ _ (by omega) ⟨j + 1, rfl, rfl, rfl, by omega⟩
  · -- cond 13 f
   obtain rfl : j = n := by simp at h13; omega
   subst hn
   refine At.exit ?_
   refine At.thn_e ?_
   refine At.thn_e ?_
   refine At.inb_hit ?_
   refine At.next ?_
   refine At.seq ?_
   refine At.region ?_
   refine At.p (some 25) (P_move rfl rfl) ?_
   refine At.p (some 2) (P_assign rfl rfl) ?_
   refine At.nil ?_
   refine At.next ?_
   refine At.ret ?_
   refine At.give (.inl rfl) [] (rows' := []) (vs := [_]) rfl ⟨rfl, trivial⟩ rfl (by simp) (by simp) ⟨rfl, rfl⟩

theorem c_littleN {A : Option Addr} {l : List (BitVec 8)} {n ca bq q : Nat} (hn : l.length = n) (hA : 0 < n → A = some ⟨bq, q, none⟩) (hca : n ≤ ca) : Con Try.prog 136 [.slice A n ca] [pRow bq q l] (fun v rs => v = u64V (le64 l 0 (min n 8)) ∧ rs = []) := by
 subst hn
 exact c_little A l ca bq q hA hca
def part0 (l : List (BitVec 8)) : List (BitVec 64) := [le64 l 0 (min l.length 8), if 8 < l.length then le64 (l.drop 8) 0 (min (l.length - 8) 8) else 0#64, 0#64]
def partS (l : List (BitVec 8)) : List (BitVec 64) := (part0 l).set (l.length / 8) (g3 (part0 l) (l.length / 8) ||| 1#64 <<< (8 * (l.length % 8)))
theorem partS_len (l : List (BitVec 8)) : (partS l).length = 3 := by simp [partS, part0]

theorem c_part (A : Option Addr) (l : List (BitVec 8)) (ca bq q : Nat) (hA : 0 < l.length → A = some ⟨bq, q, none⟩) (hca : l.length ≤ ca) (hl : l.length ≤ 16) :
  Con Try.prog 138 [.slice A l.length ca] [pRow bq q l] (fun v rs => v = aggN (partS l) ∧ rs = []) := by
 refine Con.enter Try.func138 Try.ntmps138 (Nat.le_of_ble_eq_true rfl) rfl fun w => ?_
 refine At.seq ?_
 refine At.region ?_
 refine At.s (S_alloc (some 2) 2 (zs := [0#64, 0#64, 0#64].map u64V) rfl ze181 rfl (fun b2 => ?_))
 refine At.nil ?_
 refine At.next ?_
 refine At.seq ?_
 refine At.region ?_
 refine At.p (some 4) (P_move rfl rfl) ?_
 refine At.s (S_callV (some 5) [(0, _)] [] (vs := [_]) rfl en136 rfl (VN (by simp) rfl View.all V0) (by simp) (c_littleN (l := l) rfl hA hca) (by rintro _ _ ⟨rfl, rfl⟩; rfl) ?_)
 rintro _ _ ⟨rfl, rfl⟩
 refine At.p (some 6) (P_build_arr (cs := ([le64 l 0 (min l.length 8), 0#64, 0#64].map u64V).toArray) (parts := _) (vs := [(0, _), (1, _), (2, _)]) rfl Try.underlying181 sz66 ze181 rfl rfl) ?_
 refine At.s (S_alloc (some 3) 3 (zs := [0#64, 0#64, 0#64].map u64V) rfl ze181 rfl (fun b3 => ?_))
 refine At.s (S_storeA none (k := 3) (vs := _) rfl rfl rfl (by first | (rw [sz181]; simp <;> omega) | exact sz181) rfl WA WB rfl WC ?_)
 refine At.nil ?_
 refine At.next ?_
 refine At.seq ?_
 refine At.seq ?_
 refine At.region ?_
 refine At.p (some 7) (P_move rfl rfl) ?_
 refine At.p (some 8) (P_len_sl rfl rfl ⟨_, Try.underlying23⟩ rfl) ?_
 refine At.p (some 9) (P_cmp rfl rfl rfl rfl rfl rfl) ?_
 refine At.nil ?_
 refine At.next ?_
 refine At.cond rfl (fun h9 => ?_) (fun h9 => ?_)
 · -- cond 9 t
  have hgt : 8 < l.length := by simp at h9; omega
  have hp0 : part0 l = [le64 l 0 (min l.length 8), le64 (l.drop 8) 0 (min (l.length - 8) 8), 0#64] := by rw [part0, if_pos hgt]
  refine At.region ?_
  refine At.p (some 10) (P_move rfl rfl) ?_
  refine At.p (some 11) (P_slice_sl (l := 8) rfl Try.underlying23 sz5 rfl ⟨_, _, rfl, rfl⟩ rfl rfl (by omega) (by omega) (by omega)) ?_
  refine At.s (S_callV (some 12) [(0, _)] [] (vs := [_]) rfl en136 rfl (VN (by simp) rfl (View.sub (j := 8) (m := l.length - 8) rfl (by rw [List.take_of_length_le (by simp)])) V0) (by simp) (c_littleN (l := l.drop 8) (n := l.length - 8) (q := q + 8) (by simp) (fun h => cut_addr1 (hA (by omega)) (by omega)) (by omega)) (by rintro _ _ ⟨rfl, rfl⟩; rfl) ?_)
  rintro _ _ ⟨rfl, rfl⟩
  refine At.p (some 13) (P_indexAddr_arr1 (j := 1) rfl Try.underlying181 sz66 rfl rfl rfl (by decide)) ?_
  refine At.s (S_storeM none (f := u64V) (k := 3) rfl rfl rfl sz66 rfl rfl rfl WD ?_)
  refine At.nil ?_
  refine At.next ?_
  refine At.seq ?_
  refine At.draws 10 [] [.q false [0, 1, 2, 3, 4, 5, 6, 7, 8, 9]] (by kernel_rfl) (by kernel_rfl) ?_
  refine At.wp (some 14) (P_move rfl rfl) ?_
  refine At.wp (some 15) (P_len_sl rfl rfl ⟨_, Try.underlying23⟩ rfl) ?_
  refine At.wp (some 16) (P_quo_i rfl rfl rfl (by omega) (by omega) (by first | decide | omega)) ?_
  refine At.wp (some 17) (P_indexAddr_arr1 (j := l.length / 8) rfl Try.underlying181 sz66 rfl rfl (by omega) (by omega)) ?_
  refine At.wq (some 18) (Q_loadM (k := 3) (0#64) rfl rfl Try.underlying66 rfl rfl WD) ?_
  refine At.wp (some 19) (P_move rfl rfl) ?_
  refine At.wp (some 20) (P_len_sl rfl rfl ⟨_, Try.underlying23⟩ rfl) ?_
  refine At.wp (some 21) (P_rem_i rfl rfl rfl (by omega) (by first | decide | omega)) ?_
  refine At.wp (some 22) (P_mul_i rfl rfl rfl (by omega)) ?_
  refine At.wp (some 23) (P_shl_w UK.u64 (n := 64) (a := 1#64) rfl rfl rfl (by first | decide | omega)) ?_
  refine At.wqn ?_
  refine At.wt rfl ?_
  refine At.p (some 24) (P_or_w UK.u64 rfl rfl rfl) ?_
  refine At.p (some 25) (P_indexAddr_arr1 (j := l.length / 8) rfl Try.underlying181 sz66 rfl rfl (by omega) (by omega)) ?_
  refine At.s (S_storeM none (f := u64V) (k := 3) rfl rfl rfl sz66 rfl rfl rfl WD ?_)
  refine At.nil ?_
  refine At.next ?_
  refine At.seq ?_
  refine At.region ?_
  refine At.q (some 26) (Q_loadA (k := 3) rfl rfl Try.underlying181 rfl sz181 WD rfl) ?_
  refine At.s (S_storeA none (k := 2) (vs := _) rfl rfl rfl (by first | (rw [sz181]; simp <;> omega) | exact sz181) rfl WA WB rfl WC ?_)
  refine At.nil ?_
  refine At.next ?_
  refine At.ret ?_
  refine At.giveV (.inl rfl) [] (rows' := []) (ResV.cellA (k := 2) rfl rfl Try.underlying181 rfl sz181 (by first | (simp <;> omega) | rfl) rfl) rfl (by simp) (by simp) ?_
  exact ⟨by rw [partS, hp0, show (8 * ((l.length : Int) % 8)).toNat = 8 * (l.length % 8) by omega]; rfl, rfl⟩
 · -- cond 9 f
  have hgt : ¬ 8 < l.length := by simp at h9; omega
  have hp0 : part0 l = [le64 l 0 (min l.length 8), 0#64, 0#64] := by rw [part0, if_neg hgt]
  refine At.skip ?_
  refine At.next ?_
  refine At.seq ?_
  refine At.draws 10 [] [.q false [0, 1, 2, 3, 4, 5, 6, 7, 8, 9]] (by kernel_rfl) (by kernel_rfl) ?_
  refine At.wp (some 14) (P_move rfl rfl) ?_
  refine At.wp (some 15) (P_len_sl rfl rfl ⟨_, Try.underlying23⟩ rfl) ?_
  refine At.wp (some 16) (P_quo_i rfl rfl rfl (by omega) (by omega) (by first | decide | omega)) ?_
  refine At.wp (some 17) (P_indexAddr_arr1 (j := l.length / 8) rfl Try.underlying181 sz66 rfl rfl (by omega) (by omega)) ?_
  refine At.wq (some 18) (Q_loadM (k := 3) (0#64) rfl rfl Try.underlying66 rfl rfl WD) ?_
  refine At.wp (some 19) (P_move rfl rfl) ?_
  refine At.wp (some 20) (P_len_sl rfl rfl ⟨_, Try.underlying23⟩ rfl) ?_
  refine At.wp (some 21) (P_rem_i rfl rfl rfl (by omega) (by first | decide | omega)) ?_
  refine At.wp (some 22) (P_mul_i rfl rfl rfl (by omega)) ?_
  refine At.wp (some 23) (P_shl_w UK.u64 (n := 64) (a := 1#64) rfl rfl rfl (by first | decide | omega)) ?_
  refine At.wqn ?_
  refine At.wt rfl ?_
  refine At.p (some 24) (P_or_w UK.u64 rfl rfl rfl) ?_
  refine At.p (some 25) (P_indexAddr_arr1 (j := l.length / 8) rfl Try.underlying181 sz66 rfl rfl (by omega) (by omega)) ?_
  refine At.s (S_storeM none (f := u64V) (k := 3) rfl rfl rfl sz66 rfl rfl rfl WD ?_)
  refine At.nil ?_
  refine At.next ?_
  refine At.seq ?_
  refine At.region ?_
  refine At.q (some 26) (Q_loadA (k := 3) rfl rfl Try.underlying181 rfl sz181 WD rfl) ?_
  refine At.s (S_storeA none (k := 2) (vs := _) rfl rfl rfl (by first | (rw [sz181]; simp <;> omega) | exact sz181) rfl WA WB rfl WC ?_)
  refine At.nil ?_
  refine At.next ?_
  refine At.ret ?_
  refine At.giveV (.inl rfl) [] (rows' := []) (ResV.cellA (k := 2) rfl rfl Try.underlying181 rfl sz181 (by first | (simp <;> omega) | rfl) rfl) rfl (by simp) (by simp) ?_
  exact ⟨by rw [partS, hp0, show (8 * ((l.length : Int) % 8)).toNat = 8 * (l.length % 8) by omega]; rfl, rfl⟩

def timesS (h : List (BitVec 64)) (r0 r1 : BitVec 64) : List (BitVec 64) :=
 let h0 := mulH (g3 h 0) r0; let l0 := g3 h 0 * r0
 let h1 := wideH 0#64 0#64 (g3 h 0) r1; let l1 := wideL 0#64 (g3 h 0) r1
 let h1' := wideH h1 l1 (g3 h 1) r0; let l1' := wideL l1 (g3 h 1) r0
 let h2 := wideH 0#64 0#64 (g3 h 1) r1; let l2 := wideL 0#64 (g3 h 1) r1
 let h2' := wideH h2 l2 (g3 h 2) r0; let l2' := wideL l2 (g3 h 2) r0
 let l3 := g3 h 2 * r1
 let t1 := l1' + h0 + 0#64; let c1 := cy l1' h0 0#64
 let t2 := l2' + h1' + c1; let c2 := cy l2' h1' c1
 let t3 := l3 + h2' + c2
 let out := [l0, t1, t2 &&& 3#64]
 let over := [t2 &&& ~~~ 3#64, t3, 0#64]
 let quarter := [(t2 &&& ~~~ 3#64) >>> 2 ||| t3 <<< 62, t3 >>> 2, 0#64]
 plusS (plusS out over) quarter

theorem c_times (h : List (BitVec 64)) (r0 r1 : BitVec 64) (hh : h.length = 3) :
  Con Try.prog 139 [aggN h, u64V r0, u64V r1] [] (fun v rs => v = aggN (timesS h r0 r1) ∧ rs = []) := by
 refine Con.enter Try.func139 Try.ntmps139 (Nat.le_of_ble_eq_true rfl) rfl fun w => ?_
 refine At.seq ?_
 refine At.region ?_
 refine At.s (S_box (some 3) 3 (zs := h.map u64V) rfl rfl rfl (fun b3 => ?_))
 refine At.s (S_alloc (some 6) 6 (zs := [0#64, 0#64, 0#64].map u64V) rfl ze181 rfl (fun b6 => ?_))
 refine At.nil ?_
 refine At.next ?_
 refine At.seq ?_
 refine At.region ?_
 refine At.p (some 24) (P_indexAddr_arr1 (j := 0) rfl Try.underlying181 sz66 rfl rfl rfl (by decide)) ?_
 refine At.q (some 25) (Q_loadM (k := 3) (0#64) rfl rfl Try.underlying66 rfl rfl WD) ?_
 refine At.p (some 26) (P_move rfl rfl) ?_
 refine At.s (S_callV (some 27) [] [] (vs := [_, _]) rfl en129 rfl V0 (by simp) (c_mul _ _) (by rintro _ _ ⟨rfl, rfl⟩; rfl) ?_)
 rintro _ _ ⟨rfl, rfl⟩
 refine At.p (some 23) (P_move rfl rfl) ?_
 refine At.p (some 28) (P_extract rfl rfl rfl) ?_
 refine At.p (some 29) (P_extract rfl rfl rfl) ?_
 refine At.p (some 7) (P_assign rfl rfl) ?_
 refine At.p (some 8) (P_assign rfl rfl) ?_
 refine At.nil ?_
 refine At.next ?_
 refine At.seq ?_
 refine At.region ?_
 refine At.p (some 31) (P_indexAddr_arr1 (j := 0) rfl Try.underlying181 sz66 rfl rfl rfl (by decide)) ?_
 refine At.q (some 32) (Q_loadM (k := 3) (0#64) rfl rfl Try.underlying66 rfl rfl WD) ?_
 refine At.p (some 33) (P_move rfl rfl) ?_
 refine At.s (S_callV (some 34) [] [] (vs := [_, _, _, _]) rfl en146 rfl V0 (by simp) (c_wide 0#64 0#64 _ _) (by rintro _ _ ⟨rfl, rfl⟩; rfl) ?_)
 rintro _ _ ⟨rfl, rfl⟩
 refine At.p (some 30) (P_move rfl rfl) ?_
 refine At.p (some 35) (P_extract rfl rfl rfl) ?_
 refine At.p (some 36) (P_extract rfl rfl rfl) ?_
 refine At.p (some 9) (P_assign rfl rfl) ?_
 refine At.p (some 10) (P_assign rfl rfl) ?_
 refine At.nil ?_
 refine At.next ?_
 refine At.seq ?_
 refine At.region ?_
 refine At.p (some 38) (P_move rfl rfl) ?_
 refine At.p (some 39) (P_move rfl rfl) ?_
 refine At.p (some 40) (P_indexAddr_arr1 (j := 1) rfl Try.underlying181 sz66 rfl rfl rfl (by decide)) ?_
 refine At.q (some 41) (Q_loadM (k := 3) (0#64) rfl rfl Try.underlying66 rfl rfl WD) ?_
 refine At.p (some 42) (P_move rfl rfl) ?_
 refine At.s (S_callV (some 43) [] [] (vs := [_, _, _, _]) rfl en146 rfl V0 (by simp) (c_wide _ _ _ _) (by rintro _ _ ⟨rfl, rfl⟩; rfl) ?_)
 rintro _ _ ⟨rfl, rfl⟩
 refine At.p (some 37) (P_move rfl rfl) ?_
 refine At.p (some 44) (P_extract rfl rfl rfl) ?_
 refine At.p (some 45) (P_extract rfl rfl rfl) ?_
 refine At.p (some 9) (P_assign rfl rfl) ?_
 refine At.p (some 10) (P_assign rfl rfl) ?_
 refine At.nil ?_
 refine At.next ?_
 refine At.seq ?_
 refine At.region ?_
 refine At.p (some 47) (P_indexAddr_arr1 (j := 1) rfl Try.underlying181 sz66 rfl rfl rfl (by decide)) ?_
 refine At.q (some 48) (Q_loadM (k := 3) (0#64) rfl rfl Try.underlying66 rfl rfl WD) ?_
 refine At.p (some 49) (P_move rfl rfl) ?_
 refine At.s (S_callV (some 50) [] [] (vs := [_, _, _, _]) rfl en146 rfl V0 (by simp) (c_wide 0#64 0#64 _ _) (by rintro _ _ ⟨rfl, rfl⟩; rfl) ?_)
 rintro _ _ ⟨rfl, rfl⟩
 refine At.p (some 46) (P_move rfl rfl) ?_
 refine At.p (some 51) (P_extract rfl rfl rfl) ?_
 refine At.p (some 52) (P_extract rfl rfl rfl) ?_
 refine At.p (some 11) (P_assign rfl rfl) ?_
 refine At.p (some 12) (P_assign rfl rfl) ?_
 refine At.nil ?_
 refine At.next ?_
 refine At.seq ?_
 refine At.region ?_
 refine At.p (some 54) (P_move rfl rfl) ?_
 refine At.p (some 55) (P_move rfl rfl) ?_
 refine At.p (some 56) (P_indexAddr_arr1 (j := 2) rfl Try.underlying181 sz66 rfl rfl rfl (by decide)) ?_
 refine At.q (some 57) (Q_loadM (k := 3) (0#64) rfl rfl Try.underlying66 rfl rfl WD) ?_
 refine At.p (some 58) (P_move rfl rfl) ?_
 refine At.s (S_callV (some 59) [] [] (vs := [_, _, _, _]) rfl en146 rfl V0 (by simp) (c_wide _ _ _ _) (by rintro _ _ ⟨rfl, rfl⟩; rfl) ?_)
 rintro _ _ ⟨rfl, rfl⟩
 refine At.p (some 53) (P_move rfl rfl) ?_
 refine At.p (some 60) (P_extract rfl rfl rfl) ?_
 refine At.p (some 61) (P_extract rfl rfl rfl) ?_
 refine At.p (some 11) (P_assign rfl rfl) ?_
 refine At.p (some 12) (P_assign rfl rfl) ?_
 refine At.nil ?_
 refine At.next ?_
 refine At.seq ?_
 refine At.region ?_
 refine At.p (some 62) (P_indexAddr_arr1 (j := 2) rfl Try.underlying181 sz66 rfl rfl rfl (by decide)) ?_
 refine At.q (some 63) (Q_loadM (k := 3) (0#64) rfl rfl Try.underlying66 rfl rfl WD) ?_
 refine At.p (some 64) (P_move rfl rfl) ?_
 refine At.p (some 65) (P_mul_w UK.u64 rfl rfl rfl) ?_
 refine At.p (some 13) (P_assign rfl rfl) ?_
 refine At.nil ?_
 refine At.next ?_
 refine At.seq ?_
 refine At.region ?_
 refine At.p (some 66) (P_move rfl rfl) ?_
 refine At.p (some 14) (P_assign rfl rfl) ?_
 refine At.nil ?_
 refine At.next ?_
 refine At.seq ?_
 refine At.region ?_
 refine At.p (some 68) (P_move rfl rfl) ?_
 refine At.p (some 69) (P_move rfl rfl) ?_
 refine At.p (some 70) (P_add64 (c := 0#64) ext_add rfl rfl rfl rfl (by decide)) ?_
 refine At.p (some 67) (P_move rfl rfl) ?_
 refine At.p (some 71) (P_extract rfl rfl rfl) ?_
 refine At.p (some 72) (P_extract rfl rfl rfl) ?_
 refine At.p (some 15) (P_assign rfl rfl) ?_
 refine At.p (some 16) (P_assign rfl rfl) ?_
 refine At.nil ?_
 refine At.next ?_
 refine At.seq ?_
 refine At.region ?_
 refine At.p (some 74) (P_move rfl rfl) ?_
 refine At.p (some 75) (P_move rfl rfl) ?_
 refine At.p (some 76) (P_move rfl rfl) ?_
 refine At.p (some 77) (P_add64 ext_add rfl rfl rfl rfl (by first | exact cy_le (by decide) | exact cy_le (cy_le (by decide)) | exact cy_le (cy_le (cy_le (by decide))))) ?_
 refine At.p (some 73) (P_move rfl rfl) ?_
 refine At.p (some 78) (P_extract rfl rfl rfl) ?_
 refine At.p (some 79) (P_extract rfl rfl rfl) ?_
 refine At.p (some 17) (P_assign rfl rfl) ?_
 refine At.p (some 16) (P_assign rfl rfl) ?_
 refine At.nil ?_
 refine At.next ?_
 refine At.seq ?_
 refine At.region ?_
 refine At.p (some 81) (P_move rfl rfl) ?_
 refine At.p (some 82) (P_move rfl rfl) ?_
 refine At.p (some 83) (P_move rfl rfl) ?_
 refine At.p (some 84) (P_add64 ext_add rfl rfl rfl rfl (by first | exact cy_le (by decide) | exact cy_le (cy_le (by decide)) | exact cy_le (cy_le (cy_le (by decide))))) ?_
 refine At.p (some 80) (P_move rfl rfl) ?_
 refine At.p (some 85) (P_extract rfl rfl rfl) ?_
 refine At.p (some 86) (P_extract rfl rfl rfl) ?_
 refine At.p (some 18) (P_assign rfl rfl) ?_
 refine At.p (some 19) (P_assign rfl rfl) ?_
 refine At.nil ?_
 refine At.next ?_
 refine At.seq ?_
 refine At.region ?_
 refine At.p (some 87) (P_move rfl rfl) ?_
 refine At.p (some 88) (P_move rfl rfl) ?_
 refine At.p (some 89) (P_move rfl rfl) ?_
 refine At.p (some 90) (P_and_w UK.u64 (b := 3#64) rfl rfl rfl) ?_
 refine At.p (some 91) (P_build_arr (cs := (([_, _, _] : List (BitVec 64)).map u64V).toArray) (parts := _) (vs := [(0, _), (1, _), (2, _)]) rfl Try.underlying181 sz66 ze181 rfl rfl) ?_
 refine At.s (S_alloc (some 20) 20 (zs := [0#64, 0#64, 0#64].map u64V) rfl ze181 rfl (fun b20 => ?_))
 refine At.s (S_storeA none (k := 20) (vs := _) rfl rfl rfl (by first | (rw [sz181]; simp <;> omega) | exact sz181) rfl WA WB rfl WC ?_)
 refine At.nil ?_
 refine At.next ?_
 refine At.seq ?_
 refine At.region ?_
 refine At.p (some 92) (P_move rfl rfl) ?_
 refine At.p (some 93) (P_andNot_w UK.u64 (b := 3#64) rfl rfl rfl) ?_
 refine At.p (some 94) (P_move rfl rfl) ?_
 refine At.p (some 95) (P_build_arr (cs := (([_, _, 0#64] : List (BitVec 64)).map u64V).toArray) (parts := _) (vs := [(0, _), (1, _), (2, _)]) rfl Try.underlying181 sz66 ze181 rfl rfl) ?_
 refine At.s (S_alloc (some 21) 21 (zs := [0#64, 0#64, 0#64].map u64V) rfl ze181 rfl (fun b21 => ?_))
 refine At.s (S_storeA none (k := 21) (vs := _) rfl rfl rfl (by first | (rw [sz181]; simp <;> omega) | exact sz181) rfl WA WB rfl WC ?_)
 refine At.nil ?_
 refine At.next ?_
 refine At.seq ?_
 refine At.region ?_
 refine At.p (some 96) (P_indexAddr_arr1 (j := 0) rfl Try.underlying181 sz66 rfl rfl rfl (by decide)) ?_
 refine At.q (some 97) (Q_loadM (k := 21) (0#64) rfl rfl Try.underlying66 rfl rfl WD) ?_
 refine At.p (some 98) (P_shr_w UK.u64 (n := 64) rfl rfl rfl (by first | decide | omega)) ?_
 refine At.p (some 99) (P_indexAddr_arr1 (j := 1) rfl Try.underlying181 sz66 rfl rfl rfl (by decide)) ?_
 refine At.q (some 100) (Q_loadM (k := 21) (0#64) rfl rfl Try.underlying66 rfl rfl WD) ?_
 refine At.p (some 101) (P_shl_w UK.u64 (n := 64) rfl rfl rfl (by first | decide | omega)) ?_
 refine At.p (some 102) (P_or_w UK.u64 rfl rfl rfl) ?_
 refine At.p (some 103) (P_indexAddr_arr1 (j := 1) rfl Try.underlying181 sz66 rfl rfl rfl (by decide)) ?_
 refine At.q (some 104) (Q_loadM (k := 21) (0#64) rfl rfl Try.underlying66 rfl rfl WD) ?_
 refine At.p (some 105) (P_shr_w UK.u64 (n := 64) rfl rfl rfl (by first | decide | omega)) ?_
 refine At.p (some 106) (P_build_arr (cs := (([_, _, 0#64] : List (BitVec 64)).map u64V).toArray) (parts := _) (vs := [(0, _), (1, _), (2, _)]) rfl Try.underlying181 sz66 ze181 rfl rfl) ?_
 refine At.s (S_alloc (some 22) 22 (zs := [0#64, 0#64, 0#64].map u64V) rfl ze181 rfl (fun b22 => ?_))
 refine At.s (S_storeA none (k := 22) (vs := _) rfl rfl rfl (by first | (rw [sz181]; simp <;> omega) | exact sz181) rfl WA WB rfl WC ?_)
 refine At.nil ?_
 refine At.next ?_
 refine At.seq ?_
 refine At.draws 4 [] [.q false [0, 1, 2, 3]] (by kernel_rfl) (by kernel_rfl) ?_
 refine At.wq (some 107) (Q_loadA (k := 20) rfl rfl Try.underlying181 rfl sz181 WD rfl) ?_
 refine At.wq (some 108) (Q_loadA (k := 21) rfl rfl Try.underlying181 rfl sz181 WD rfl) ?_
 refine At.wcV (some 109) [] (vs := [_, _]) rfl en137 rfl V0 (c_plus [_, _, _] [_, _, 0#64] rfl rfl) ?_
 refine At.wq (some 110) (Q_loadA (k := 22) rfl rfl Try.underlying181 rfl sz181 WD rfl) ?_
 refine At.wqn ?_
 refine At.wt rfl ?_
 refine At.s (S_callV (some 111) [] [] (vs := [_, _]) rfl en137 rfl V0 (by simp) (c_plus (plusS _ _) [_, _, 0#64] rfl rfl) (by rintro _ _ ⟨rfl, rfl⟩; rfl) ?_)
 rintro _ _ ⟨rfl, rfl⟩
 refine At.s (S_storeA none (k := 6) (vs := _) rfl rfl rfl (by first | (rw [sz181]; simp <;> omega) | exact sz181) rfl WA WB rfl WC ?_)
 refine At.nil ?_
 refine At.next ?_
 refine At.ret ?_
 refine At.giveV (.inl rfl) [] (rows' := []) (ResV.cellA (k := 6) rfl rfl Try.underlying181 rfl sz181 (by first | (simp <;> omega) | rfl) rfl) rfl (by simp) (by simp) ?_
 exact ⟨rfl, rfl⟩

def redStep (h : List (BitVec 64)) : List (BitVec 64) := plusS (h.set 2 (g3 h 2 &&& 3#64)) [5#64 * g3 h 2 >>> 2, 0#64, 0#64]
def redN (h : List (BitVec 64)) : Nat → List (BitVec 64)
 | 0 => h
 | n + 1 => redStep (redN h n)
theorem redN_len {h : List (BitVec 64)} (hh : h.length = 3) (n : Nat) : (redN h n).length = 3 := by
 cases n with
 | zero => exact hh
 | succ n => rfl
def redS (h : List (BitVec 64)) : List (BitVec 64) :=
 if g3 (plusS (redN h 2) [5#64, 0#64, 0#64]) 2 >>> 2 ≠ 0#64 then (plusS (redN h 2) [5#64, 0#64, 0#64]).set 2 (g3 (plusS (redN h 2) [5#64, 0#64, 0#64]) 2 &&& 3#64) else redN h 2
theorem redS_len {h : List (BitVec 64)} (hh : h.length = 3) : (redS h).length = 3 := by
 unfold redS
 split
 · rfl
 · exact redN_len hh 2

theorem c_reduced (h : List (BitVec 64)) (hh : h.length = 3) :
  Con Try.prog 140 [aggN h] [] (fun v rs => v = aggN (redS h) ∧ rs = []) := by
 refine Con.enter Try.func140 Try.ntmps140 (Nat.le_of_ble_eq_true rfl) rfl fun w => ?_
 refine At.seq ?_
 refine At.region ?_
 refine At.s (S_box (some 1) 1 (zs := h.map u64V) rfl rfl rfl (fun b1 => ?_))
 refine At.s (S_alloc (some 2) 2 (zs := [0#64, 0#64, 0#64].map u64V) rfl ze181 rfl (fun b2 => ?_))
 refine At.nil ?_
 refine At.next ?_
 refine At.seq ?_
 refine At.seq ?_
 refine At.region ?_
 refine At.p (some 5) (P_move rfl rfl) ?_
 refine At.nil ?_
 refine At.next ?_
 refine At.block ?_
 refine At.loopx (I := fun m fr H => ∃ i, m = 2 - i ∧ fr = frOf [(1, ptr b1 0), (2, ptr b2 0), (5, iV (i : Int))] ∧ H = hOf [(1, ⟨true, b1, 0, 181, (redN h i).map u64V, 0⟩), (2, ⟨true, b2, 0, 181, [0#64, 0#64, 0#64].map u64V, 0⟩)] ∧ i ≤ 2) ?_ ?_
 ·
  intro Kc0 hKc0
  refine At.to [(1, _), (2, _), (5, _)] [(1, _), (2, _)] (AllL.cons_ (rfl) (AllL.cons_ (rfl) (AllL.cons_ (rfl) trivial))) (AllL.cons_ (rfl) (AllL.cons_ (rfl) trivial)) ?_
  exact hKc0 _ _ _ ⟨0, rfl, rfl, rfl, by omega⟩
 ·
  rintro m fr H ⟨i, rfl, rfl, rfl, hi⟩ Kc0 hKc0
  refine At.seq ?_
  refine At.region ?_
  refine At.p (some 6) (P_cmp rfl rfl rfl rfl rfl rfl) ?_
  refine At.nil ?_
  refine At.next ?_
  refine At.seq ?_
  refine At.cond rfl (fun h6 => ?_) (fun h6 => ?_)
  · -- cond 6 t
   have hlt : i < 2 := by simp at h6; omega
   have hl : (redN h i).length = 3 := redN_len hh i
   have hps : ∀ a b : List (BitVec 64), (plusS a b).length = 3 := fun _ _ => rfl
   refine At.skip ?_
   refine At.next ?_
   refine At.seq ?_
   refine At.block ?_
   refine At.seq ?_
   refine At.region ?_
   refine At.p (some 7) (P_indexAddr_arr1 (j := 2) rfl Try.underlying181 sz66 rfl rfl rfl (by decide)) ?_
   refine At.q (some 8) (Q_loadM (k := 1) (0#64) rfl rfl Try.underlying66 rfl rfl WD) ?_
   refine At.p (some 9) (P_shr_w UK.u64 (n := 64) rfl rfl rfl (by first | decide | omega)) ?_
   refine At.p (some 3) (P_assign rfl rfl) ?_
   refine At.nil ?_
   refine At.next ?_
   refine At.seq ?_
   refine At.region ?_
   refine At.p (some 10) (P_indexAddr_arr1 (j := 2) rfl Try.underlying181 sz66 rfl rfl rfl (by decide)) ?_
   refine At.q (some 11) (Q_loadM (k := 1) (0#64) rfl rfl Try.underlying66 rfl rfl WD) ?_
   refine At.p (some 12) (P_and_w UK.u64 (b := 3#64) rfl rfl rfl) ?_
   refine At.p (some 13) (P_indexAddr_arr1 (j := 2) rfl Try.underlying181 sz66 rfl rfl rfl (by decide)) ?_
   refine At.s (S_storeM none (f := u64V) (k := 1) rfl rfl rfl sz66 rfl rfl rfl WD ?_)
   refine At.nil ?_
   refine At.next ?_
   refine At.region ?_
   refine At.q (some 14) (Q_loadA (k := 1) rfl rfl Try.underlying181 rfl sz181 WD rfl) ?_
   refine At.p (some 15) (P_move rfl rfl) ?_
   refine At.p (some 16) (P_mul_w UK.u64 (a := 5#64) rfl rfl rfl) ?_
   refine At.p (some 17) (P_build_arr (cs := ([5#64 * g3 (redN h i) 2 >>> 2, 0#64, 0#64].map u64V).toArray) (parts := _) (vs := [(0, _), (1, _), (2, _)]) rfl Try.underlying181 sz66 ze181 rfl rfl) ?_
   refine At.s (S_callV (some 18) [] [] (vs := [_, _]) rfl en137 rfl V0 (by simp) (c_plus ((redN h i).set 2 (g3 (redN h i) 2 &&& 3#64)) [5#64 * g3 (redN h i) 2 >>> 2, 0#64, 0#64] (by rw [List.length_set]; exact hl) rfl) (by rintro _ _ ⟨rfl, rfl⟩; rfl) ?_)
   rintro _ _ ⟨rfl, rfl⟩
   refine At.s (S_storeA none (k := 1) (vs := _) rfl rfl rfl (by first | (rw [sz181]; simp <;> omega) | exact sz181) rfl WA WB rfl WC ?_)
   refine At.nil ?_
   refine At.inb_n ?_
   refine At.next ?_
   refine At.region ?_
   refine At.p (some 19) (P_add_i rfl rfl rfl (by omega)) ?_
   refine At.p (some 5) (P_move rfl rfl) ?_
   refine At.nil ?_
   refine At.next ?_
   refine At.to [(1, _), (2, _), (5, _)] [(1, ⟨true, b1, 0, 181, (redN h (i + 1)).map u64V, 0⟩), (2, _)] (AllL.cons_ (rfl) (AllL.cons_ (rfl) (AllL.cons_ (rfl) trivial))) (AllL.cons_ (rfl) (AllL.cons_ (rfl) trivial)) ?_
   exact hKc0 _ _ _ (by omega) ⟨i + 1, rfl, rfl, rfl, by omega⟩
  · -- cond 6 f
   obtain rfl : i = 2 := by simp at h6; omega
   have hl : (redN h 2).length = 3 := redN_len hh 2
   have hp3 : (plusS (redN h 2) [5#64, 0#64, 0#64]).length = 3 := rfl
   refine At.exit ?_
   refine At.thn_e ?_
   refine At.thn_e ?_
   refine At.inb_hit ?_
   refine At.next ?_
   refine At.seq ?_
   refine At.region ?_
   refine At.q (some 20) (Q_loadA (k := 1) rfl rfl Try.underlying181 rfl sz181 WD rfl) ?_
   refine At.p (some 21) (P_build_arr (cs := ([5#64, 0#64, 0#64].map u64V).toArray) (parts := _) (vs := [(0, _), (1, _), (2, _)]) rfl Try.underlying181 sz66 ze181 rfl rfl) ?_
   refine At.s (S_callV (some 22) [] [] (vs := [_, _]) rfl en137 rfl V0 (by simp) (c_plus (redN h 2) [5#64, 0#64, 0#64] hl rfl) (by rintro _ _ ⟨rfl, rfl⟩; rfl) ?_)
   rintro _ _ ⟨rfl, rfl⟩
   refine At.s (S_alloc (some 4) 4 (zs := [0#64, 0#64, 0#64].map u64V) rfl ze181 rfl (fun b4 => ?_))
   refine At.s (S_storeA none (k := 4) (vs := _) rfl rfl rfl (by first | (rw [sz181]; simp <;> omega) | exact sz181) rfl WA WB rfl WC ?_)
   refine At.nil ?_
   refine At.next ?_
   refine At.seq ?_
   refine At.seq ?_
   refine At.region ?_
   refine At.p (some 23) (P_indexAddr_arr1 (j := 2) rfl Try.underlying181 sz66 rfl rfl rfl (by decide)) ?_
   refine At.q (some 24) (Q_loadM (k := 4) (0#64) rfl rfl Try.underlying66 rfl rfl WD) ?_
   refine At.p (some 25) (P_shr_w UK.u64 (n := 64) rfl rfl rfl (by first | decide | omega)) ?_
   refine At.p (some 26) (P_neq_w (n := 64) (b := 0#64) rfl rfl rfl) ?_
   refine At.nil ?_
   refine At.next ?_
   refine At.cond rfl (fun h26 => ?_) (fun h26 => ?_)
   · -- cond 26 t
    have hr : redS h = (plusS (redN h 2) [5#64, 0#64, 0#64]).set 2 (g3 (plusS (redN h 2) [5#64, 0#64, 0#64]) 2 &&& 3#64) := if_pos (by simpa using h26)
    refine At.seq ?_
    refine At.region ?_
    refine At.p (some 27) (P_indexAddr_arr1 (j := 2) rfl Try.underlying181 sz66 rfl rfl rfl (by decide)) ?_
    refine At.q (some 28) (Q_loadM (k := 4) (0#64) rfl rfl Try.underlying66 rfl rfl WD) ?_
    refine At.p (some 29) (P_and_w UK.u64 (b := 3#64) rfl rfl rfl) ?_
    refine At.p (some 30) (P_indexAddr_arr1 (j := 2) rfl Try.underlying181 sz66 rfl rfl rfl (by decide)) ?_
    refine At.s (S_storeM none (f := u64V) (k := 4) rfl rfl rfl sz66 rfl rfl rfl WD ?_)
    refine At.nil ?_
    refine At.next ?_
    refine At.seq ?_
    refine At.region ?_
    refine At.q (some 31) (Q_loadA (k := 4) rfl rfl Try.underlying181 rfl sz181 WD rfl) ?_
    refine At.s (S_storeA none (k := 2) (vs := _) rfl rfl rfl (by first | (rw [sz181]; simp <;> omega) | exact sz181) rfl WA WB rfl WC ?_)
    refine At.nil ?_
    refine At.next ?_
    refine At.ret ?_
    refine At.thn_r ?_
    refine At.giveV (.inl rfl) [] (rows' := []) (ResV.cellA (k := 2) rfl rfl Try.underlying181 rfl sz181 (by first | (simp <;> omega) | rfl) rfl) rfl (by simp) (by simp) ?_
    exact ⟨by rw [hr]; rfl, rfl⟩
   · -- cond 26 f
    have hr : redS h = redN h 2 := if_neg (by simpa using h26)
    refine At.skip ?_
    refine At.next ?_
    refine At.seq ?_
    refine At.region ?_
    refine At.q (some 32) (Q_loadA (k := 1) rfl rfl Try.underlying181 rfl sz181 WD rfl) ?_
    refine At.s (S_storeA none (k := 2) (vs := _) rfl rfl rfl (by first | (rw [sz181]; simp <;> omega) | exact sz181) rfl WA WB rfl WC ?_)
    refine At.nil ?_
    refine At.next ?_
    refine At.ret ?_
    refine At.giveV (.inl rfl) [] (rows' := []) (ResV.cellA (k := 2) rfl rfl Try.underlying181 rfl sz181 (by first | (simp <;> omega) | rfl) rfl) rfl (by simp) (by simp) ?_
    exact ⟨by rw [hr]; rfl, rfl⟩

def rLo (key : List (BitVec 8)) : BitVec 64 := le64 (key.take 8) 0 8 &&& 1152921487695413247#64
def rHi (key : List (BitVec 8)) : BitVec 64 := le64 ((key.drop 8).take 8) 0 8 &&& 1152921487695413244#64
def blkQ (l : List (BitVec 8)) (n : Nat) : List (BitVec 8) := (l.drop (16 * n)).take 16
def pTo (key l : List (BitVec 8)) : Nat → List (BitVec 64)
 | 0 => [0#64, 0#64, 0#64]
 | n + 1 => timesS (plusS (pTo key l n) (partS (blkQ l n))) (rLo key) (rHi key)
theorem hTo_lenQ (key l : List (BitVec 8)) (n : Nat) : (pTo key l n).length = 3 := by cases n <;> rfl
def nBlk (l : List (BitVec 8)) : Nat := (l.length + 15) / 16
def tagW (key l : List (BitVec 8)) : List (BitVec 64) := plusS (redS (pTo key l (nBlk l))) [le64 ((key.drop 16).take 8) 0 8, le64 ((key.drop 24).take 8) 0 8, 0#64]
def tagAt (w : List (BitVec 64)) (i : Nat) : BitVec 8 := (g3 w (i / 8) >>> (8 * (i % 8))).setWidth 8
def tagTo (w : List (BitVec 64)) (n : Nat) : List (BitVec 8) := (List.range n).map (tagAt w) ++ List.replicate (16 - n) 0#8
theorem tagTo_len {w : List (BitVec 64)} {n : Nat} (h : n ≤ 16) : (tagTo w n).length = 16 := by simp [tagTo]; omega
theorem tagTo_set {w : List (BitVec 64)} {n : Nat} (h : n < 16) : (tagTo w n).set n (tagAt w n) = tagTo w (n + 1) := fill_set (tagAt w) 0#8 h
def tagS (key l : List (BitVec 8)) : List (BitVec 8) := (List.range 16).map (tagAt (tagW key l))

theorem c_partN {A : Option Addr} {l : List (BitVec 8)} {n ca bq q : Nat} (hn : l.length = n) (hA : 0 < n → A = some ⟨bq, q, none⟩) (hca : n ≤ ca) (hl : n ≤ 16) : Con Try.prog 138 [.slice A n ca] [pRow bq q l] (fun v rs => v = aggN (partS l) ∧ rs = []) := by
 subst hn
 exact c_part A l ca bq q hA hca hl

theorem c_Tag (key l : List (BitVec 8)) (A : Option Addr) (ca bq q : Nat) (hkey : key.length = 32) (hA : 0 < l.length → A = some ⟨bq, q, none⟩) (hca : l.length ≤ ca) (hl : l.length ≤ 1000000) :
  Con Try.prog 113 [aggK key, .slice A l.length ca] [pRow bq q l] (fun v rs => v = aggK (tagS key l) ∧ rs = []) := by
 refine Con.enter Try.func113 Try.ntmps113 (Nat.le_of_ble_eq_true rfl) rfl fun w => ?_
 refine At.seq ?_
 have hk32 : key.length = 32 := hkey
 refine At.region ?_
 refine At.s (S_box (some 2) 2 (zs := key.map u8V) rfl rfl rfl (fun b2 => ?_))
 refine At.s (S_alloc (some 4) 4 (zs := (List.replicate 16 0#8).map u8V) rfl ze110 rfl (fun b4 => ?_))
 refine At.nil ?_
 refine At.next ?_
 refine At.seq ?_
 refine At.draws 7 [] [.q false [0, 1, 2, 3, 4, 5, 6]] (by kernel_rfl) (by kernel_rfl) ?_
 refine At.wp (some 12) (P_slice_arr1 (h := 8) rfl Try.underlying22 sz5 rfl rfl ⟨_, _, rfl, rfl⟩ rfl (by omega) (by omega) (by omega) (by omega)) ?_
 refine At.wcV (some 13) [(2, _)] (vs := [_]) rfl en136 rfl (VN (by simp) rfl (View.sub (j := 0) (m := 8) rfl rfl) V0) (c_littleN (l := (key.drop 0).take 8) (n := 8) (bq := b2) (q := 0) (by simp; omega) (fun _ => rfl) (by decide)) ?_
 refine At.wp (some 14) (P_and_w UK.u64 (b := 1152921487695413247#64) rfl rfl rfl) ?_
 refine At.wp (some 15) (P_slice_arr1 (l := 8) (h := 16) rfl Try.underlying22 sz5 rfl ⟨_, _, rfl, rfl⟩ ⟨_, _, rfl, rfl⟩ rfl (by omega) (by omega) (by omega) (by omega)) ?_
 refine At.wcV (some 16) [(2, _)] (vs := [_]) rfl en136 rfl (VN (by simp) rfl (View.sub (j := 8) (m := 8) rfl rfl) V0) (c_littleN (l := (key.drop 8).take 8) (n := 8) (bq := b2) (q := 8) (by simp; omega) (fun _ => rfl) (by decide)) ?_
 refine At.wp (some 17) (P_and_w UK.u64 (b := 1152921487695413244#64) rfl rfl rfl) ?_
 refine At.wp (some 5) (P_assign rfl rfl) ?_
 refine At.wqn ?_
 refine At.wt rfl ?_
 refine At.p (some 6) (P_assign rfl rfl) ?_
 refine At.nil ?_
 refine At.next ?_
 refine At.seq ?_
 refine At.region ?_
 refine At.s (S_alloc (some 7) 7 (zs := (pTo key l 0).map u64V) rfl ze181 rfl (fun b7 => ?_))
 refine At.nil ?_
 refine At.next ?_
 refine At.seq ?_
 refine At.block ?_
 refine At.loopx (I := fun m fr H => ∃ n An cn, m = l.length + 16 - 16 * n ∧ fr = frOf [(1, .slice An (l.length - 16 * n) cn), (2, ptr b2 0), (4, ptr b4 0), (5, u64V (rLo key)), (6, u64V (rHi key)), (7, ptr b7 0)] ∧ H = hOf [(0, pRow bq q l), (2, ⟨true, b2, 0, 22, key.map u8V, 0⟩), (4, ⟨true, b4, 0, 110, (List.replicate 16 0#8).map u8V, 0⟩), (7, ⟨true, b7, 0, 181, (pTo key l n).map u64V, 0⟩)] ∧ (16 * n < l.length → An = some ⟨bq, q + 16 * n, none⟩) ∧ l.length - 16 * n ≤ cn ∧ 16 * n < l.length + 16) ?_ ?_
 ·
  intro Kc0 hKc0
  refine At.to [(1, _), (2, _), (4, _), (5, _), (6, _), (7, _)] [(0, _), (2, _), (4, _), (7, _)] (AllL.cons_ (rfl) (AllL.cons_ (rfl) (AllL.cons_ (rfl) (AllL.cons_ (rfl) (AllL.cons_ (rfl) (AllL.cons_ (rfl) trivial)))))) (AllL.cons_ (rfl) (AllL.cons_ (rfl) (AllL.cons_ (rfl) (AllL.cons_ (rfl) trivial)))) ?_
  exact hKc0 _ _ _ ⟨0, A, ca, rfl, rfl, rfl, fun h => hA (by omega), by omega, by omega⟩
 ·
  rintro m fr H ⟨n, An, cn, rfl, rfl, rfl, hAn, hcn, hnn⟩ Kc0 hKc0
  refine At.seq ?_
  refine At.seq ?_
  refine At.region ?_
  refine At.p (some 18) (P_move rfl rfl) ?_
  refine At.p (some 19) (P_len_sl rfl rfl ⟨_, Try.underlying23⟩ rfl) ?_
  refine At.p (some 20) (P_cmp rfl rfl rfl rfl rfl rfl) ?_
  refine At.nil ?_
  refine At.next ?_
  refine At.cond rfl (fun h20 => ?_) (fun h20 => ?_)
  · -- cond 20 t
   have hlt : 16 * n < l.length := by simp at h20; omega
   have hh3 : (pTo key l n).length = 3 := hTo_lenQ _ _ _
   have ht3 : ∀ (a : List (BitVec 64)) (b c : BitVec 64), (timesS a b c).length = 3 := fun _ _ _ => rfl
   refine At.skip ?_
   refine At.next ?_
   refine At.block ?_
   refine At.seq ?_
   refine At.region ?_
   refine At.p (some 21) (P_move rfl rfl) ?_
   refine At.p (some 22) (P_len_sl rfl rfl ⟨_, Try.underlying23⟩ rfl) ?_
   refine At.p (some 23) (P_min2 rfl rfl rfl rfl) ?_
   refine At.p (some 8) (P_assign rfl rfl) ?_
   refine At.nil ?_
   refine At.next ?_
   refine At.seq ?_
   refine At.draws 8 [] [.q false [0, 1, 2, 3, 4, 5, 6, 7]] (by kernel_rfl) (by kernel_rfl) ?_
   refine At.wq (some 24) (Q_loadA (k := 7) rfl rfl Try.underlying181 rfl sz181 WD rfl) ?_
   refine At.wp (some 25) (P_move rfl rfl) ?_
   refine At.wp (some 26) (P_move rfl rfl) ?_
   refine At.wp (some 27) (P_slice_sl (h := min (l.length - 16 * n) 16) rfl Try.underlying23 sz5 rfl rfl ⟨_, _, rfl, by omega⟩ rfl (by omega) (by omega) (by omega)) ?_
   refine At.wcV (some 28) [(0, _)] (vs := [_]) rfl en138 rfl (VN (by simp) rfl (View.sub (j := 16 * n) (m := 16) rfl rfl) V0) (c_partN (l := blkQ l n) (n := min (l.length - 16 * n) 16) (by simp [blkQ]; omega) (fun h => cut_zero (hAn (by omega))) (by omega) (by omega)) ?_
   refine At.wcV (some 29) [] (vs := [_, _]) rfl en137 rfl V0 (c_plus _ _ (hTo_lenQ _ _ _) (partS_len _)) ?_
   refine At.wp (some 30) (P_move rfl rfl) ?_
   refine At.wp (some 31) (P_move rfl rfl) ?_
   refine At.wqn ?_
   refine At.wt rfl ?_
   refine At.s (S_callV (some 32) [] [] (vs := [_, _, _]) rfl en139 rfl V0 (by simp) (c_times _ _ _ rfl) (by rintro _ _ ⟨rfl, rfl⟩; rfl) ?_)
   rintro _ _ ⟨rfl, rfl⟩
   refine At.s (S_storeA none (k := 7) (vs := _) rfl rfl rfl (by first | (rw [sz181]; simp <;> omega) | exact sz181) rfl WA WB rfl WC ?_)
   refine At.nil ?_
   refine At.next ?_
   refine At.region ?_
   refine At.p (some 33) (P_move rfl rfl) ?_
   refine At.p (some 34) (P_move rfl rfl) ?_
   refine At.p (some 35) (P_slice_sl (l := min (l.length - 16 * n) 16) rfl Try.underlying23 sz5 rfl ⟨_, _, rfl, by omega⟩ rfl rfl (by omega) (by omega) (by omega)) ?_
   refine At.p (some 1) (P_assign rfl rfl) ?_
   refine At.nil ?_
   refine At.inb_n ?_
   refine At.next ?_
   refine At.to [(1, .slice (cut An (min (l.length - 16 * n) 16) cn 1) (l.length - 16 * (n + 1)) (cn - min (l.length - 16 * n) 16)), (2, _), (4, _), (5, _), (6, _), (7, _)] [(0, _), (2, _), (4, _), (7, ⟨true, b7, 0, 181, (pTo key l (n + 1)).map u64V, 0⟩)] (AllL.cons_ (congrArg (fun z => some (Value.slice (cut An (min (l.length - 16 * n) 16) cn 1) z (cn - min (l.length - 16 * n) 16))) (by omega)) (AllL.cons_ (rfl) (AllL.cons_ (rfl) (AllL.cons_ (rfl) (AllL.cons_ (rfl) (AllL.cons_ (rfl) trivial)))))) (AllL.cons_ (rfl) (AllL.cons_ (rfl) (AllL.cons_ (rfl) (AllL.cons_ (rfl) trivial)))) ?_
   exact hKc0 _ _ _ (by omega) ⟨n + 1, cut An (min (l.length - 16 * n) 16) cn 1, cn - min (l.length - 16 * n) 16, rfl, rfl, rfl, fun h => by rw [cut_addr1 (hAn (by omega)) (by omega)]; congr 2; omega, by omega, by omega⟩
  · -- cond 20 f
   have hge : l.length ≤ 16 * n := by simp at h20; omega
   obtain rfl : n = nBlk l := by unfold nBlk; omega
   have hh3 : (pTo key l (nBlk l)).length = 3 := hTo_lenQ _ _ _
   have hr3 : (redS (pTo key l (nBlk l))).length = 3 := redS_len hh3
   have hw3 : (tagW key l).length = 3 := rfl
   refine At.exit ?_
   refine At.thn_e ?_
   refine At.thn_e ?_
   refine At.inb_hit ?_
   refine At.next ?_
   refine At.seq ?_
   refine At.region ?_
   refine At.q (some 36) (Q_loadA (k := 7) rfl rfl Try.underlying181 rfl sz181 WD rfl) ?_
   refine At.s (S_callV (some 37) [] [] (vs := [_]) rfl en140 rfl V0 (by simp) (c_reduced _ (hTo_lenQ _ _ _)) (by rintro _ _ ⟨rfl, rfl⟩; rfl) ?_)
   rintro _ _ ⟨rfl, rfl⟩
   refine At.s (S_storeA none (k := 7) (vs := _) rfl rfl rfl (by first | (rw [sz181]; simp <;> omega) | exact sz181) rfl WA WB rfl WC ?_)
   refine At.nil ?_
   refine At.next ?_
   refine At.seq ?_
   refine At.draws 8 [] [.q false [0, 1, 2, 3, 4, 5, 6], .e false 7] (by kernel_rfl) (by kernel_rfl) ?_
   refine At.wq (some 38) (Q_loadA (k := 7) rfl rfl Try.underlying181 rfl sz181 WD rfl) ?_
   refine At.wp (some 39) (P_slice_arr1 (l := 16) (h := 24) rfl Try.underlying22 sz5 rfl ⟨_, _, rfl, rfl⟩ ⟨_, _, rfl, rfl⟩ rfl (by omega) (by omega) (by omega) (by omega)) ?_
   refine At.wcV (some 40) [(2, _)] (vs := [_]) rfl en136 rfl (VN (by simp) rfl (View.sub (j := 16) (m := 8) rfl rfl) V0) (c_littleN (l := (key.drop 16).take 8) (n := 8) (bq := b2) (q := 16) (by simp; omega) (fun _ => rfl) (by decide)) ?_
   refine At.wp (some 41) (P_slice_arr1 (l := 24) rfl Try.underlying22 sz5 rfl ⟨_, _, rfl, rfl⟩ rfl rfl (by omega) (by omega) (by omega) (by omega)) ?_
   refine At.wcV (some 42) [(2, _)] (vs := [_]) rfl en136 rfl (VN (by simp) rfl (View.sub (j := 24) (m := 8) rfl rfl) V0) (c_littleN (l := (key.drop 24).take 8) (n := 8) (bq := b2) (q := 24) (by simp; omega) (fun _ => rfl) (by decide)) ?_
   refine At.wp (some 43) (P_build_arr (cs := ([le64 ((key.drop 16).take 8) 0 8, le64 ((key.drop 24).take 8) 0 8, 0#64].map u64V).toArray) (parts := _) (vs := [(0, _), (1, _), (2, _)]) rfl Try.underlying181 sz66 ze181 rfl rfl) ?_
   refine At.wcV (some 44) [] (vs := [_, _]) rfl en137 rfl V0 (c_plus (redS _) [le64 ((key.drop 16).take 8) 0 8, le64 ((key.drop 24).take 8) 0 8, 0#64] (redS_len (hTo_lenQ _ _ _)) rfl) ?_
   refine At.wqn ?_
   refine At.we ?_
   refine S_alloc (some 9) 9 (zs := [0#64, 0#64, 0#64].map u64V) rfl ze181 rfl (fun b9 => ?_)
   refine At.wt rfl ?_
   refine At.s (S_storeA none (k := 9) (vs := _) rfl rfl rfl (by first | (rw [sz181]; simp <;> omega) | exact sz181) rfl WA WB rfl WC ?_)
   refine At.nil ?_
   refine At.next ?_
   refine At.seq ?_
   refine At.region ?_
   refine At.s (S_alloc (some 10) 10 (zs := (tagTo (tagW key l) 0).map u8V) rfl ze110 rfl (fun b10 => ?_))
   refine At.nil ?_
   refine At.next ?_
   refine At.seq ?_
   refine At.seq ?_
   refine At.region ?_
   refine At.p (some 45) (P_move rfl rfl) ?_
   refine At.nil ?_
   refine At.next ?_
   refine At.block ?_
   refine At.loopx (I := fun m fr H => ∃ i, m = 16 - i ∧ fr = frOf [(4, ptr b4 0), (9, ptr b9 0), (10, ptr b10 0), (45, iV (i : Int))] ∧ H = hOf [(4, ⟨true, b4, 0, 110, (List.replicate 16 0#8).map u8V, 0⟩), (9, ⟨true, b9, 0, 181, (tagW key l).map u64V, 0⟩), (10, ⟨true, b10, 0, 110, (tagTo (tagW key l) i).map u8V, 0⟩)] ∧ i ≤ 16) ?_ ?_
   ·
    intro Kc1 hKc1
    refine At.to [(4, _), (9, _), (10, _), (45, _)] [(4, _), (9, _), (10, _)] (AllL.cons_ (rfl) (AllL.cons_ (rfl) (AllL.cons_ (rfl) (AllL.cons_ (rfl) trivial)))) (AllL.cons_ (rfl) (AllL.cons_ (rfl) (AllL.cons_ (rfl) trivial))) ?_
    exact hKc1 _ _ _ ⟨0, rfl, rfl, rfl, by omega⟩
   ·
    rintro m fr H ⟨i, rfl, rfl, rfl, hi⟩ Kc1 hKc1
    refine At.seq ?_
    refine At.region ?_
    refine At.p (some 46) (P_cmp rfl rfl rfl rfl rfl rfl) ?_
    refine At.nil ?_
    refine At.next ?_
    refine At.seq ?_
    refine At.cond rfl (fun h46 => ?_) (fun h46 => ?_)
    · -- cond 46 t
     have hlt : i < 16 := by simp at h46; omega
     have hto : (tagTo (tagW key l) i).length = 16 := tagTo_len hi
     have hw3 : (tagW key l).length = 3 := rfl
     refine At.skip ?_
     refine At.next ?_
     refine At.seq ?_
     refine At.block ?_
     refine At.seq ?_
     refine At.region ?_
     refine At.p (some 47) (P_move rfl rfl) ?_
     refine At.p (some 11) (P_assign rfl rfl) ?_
     refine At.nil ?_
     refine At.next ?_
     refine At.region ?_
     refine At.p (some 48) (P_move rfl rfl) ?_
     refine At.p (some 49) (P_move rfl rfl) ?_
     refine At.p (some 50) (P_quo_i rfl rfl rfl (by omega) (by omega) (by first | decide | omega)) ?_
     refine At.p (some 51) (P_indexAddr_arr1 (j := i / 8) rfl Try.underlying181 sz66 rfl rfl (by omega) (by omega)) ?_
     refine At.q (some 52) (Q_loadM (k := 9) (0#64) rfl rfl Try.underlying66 rfl rfl WD) ?_
     refine At.p (some 53) (P_move rfl rfl) ?_
     refine At.p (some 54) (P_rem_i rfl rfl rfl (by omega) (by first | decide | omega)) ?_
     refine At.p (some 55) (P_mul_i rfl rfl rfl (by omega)) ?_
     refine At.p (some 56) (P_shr_w UK.u64 (n := 64) rfl rfl rfl (by first | decide | omega)) ?_
     refine At.p (some 57) (P_conv_ww UK.u8 (m := 64) rfl Try.underlying66 Try.underlying5 rfl) ?_
     refine At.p (some 58) (P_indexAddr_arr1 rfl Try.underlying110 sz5 rfl rfl rfl (by omega)) ?_
     refine At.s (S_storeM none (f := u8V) (k := 10) rfl rfl rfl sz5 rfl rfl rfl WD ?_)
     refine At.nil ?_
     refine At.inb_n ?_
     refine At.next ?_
     refine At.region ?_
     refine At.p (some 59) (P_add_i rfl rfl rfl (by omega)) ?_
     refine At.p (some 45) (P_move rfl rfl) ?_
     refine At.nil ?_
     refine At.next ?_
     refine At.to [(4, _), (9, _), (10, _), (45, _)] [(4, _), (9, _), (10, ⟨true, b10, 0, 110, (tagTo (tagW key l) (i + 1)).map u8V, 0⟩)] (AllL.cons_ (rfl) (AllL.cons_ (rfl) (AllL.cons_ (rfl) (AllL.cons_ (rfl) trivial)))) (AllL.cons_ (rfl) (AllL.cons_ (rfl) (AllL.cons_ (congrArg (fun z => some (⟨true, b10, 0, 110, List.map u8V z, 0⟩ : Row)) (by rw [← tagTo_set hlt, show (8 * ((i : Int) % 8)).toNat = 8 * (i % 8) by omega]; rfl)) trivial))) ?_
     exact hKc1 _ _ _ (by omega) ⟨i + 1, rfl, rfl, rfl, by omega⟩
    · -- cond 46 f
     obtain rfl : i = 16 := by simp at h46; omega
     have hto : (tagTo (tagW key l) 16).length = 16 := tagTo_len hi
     refine At.exit ?_
     refine At.thn_e ?_
     refine At.thn_e ?_
     refine At.inb_hit ?_
     refine At.next ?_
     refine At.seq ?_
     refine At.region ?_
     refine At.q (some 60) (Q_loadA (k := 10) rfl rfl Try.underlying110 rfl sz110 WD rfl) ?_
     refine At.s (S_storeA none (k := 4) (vs := _) rfl rfl rfl (by first | (rw [sz110]; simp <;> omega) | exact sz110) rfl WA WB rfl WC ?_)
     refine At.nil ?_
     refine At.next ?_
     refine At.ret ?_
     refine At.giveV (.inl rfl) [] (rows' := []) (ResV.cellA (k := 4) rfl rfl Try.underlying110 rfl sz110 ((List.length_map u8V).trans hto) rfl) rfl (by simp) (by simp) ?_
     exact ⟨by simp [tagTo, tagS, aggK], rfl⟩

def lessTo (k : Nat) : List Int := (List.range k).map (fun _ => (255 : Int)) ++ List.replicate (17 - k) 0
theorem lessTo_len {k : Nat} (h : k ≤ 17) : (lessTo k).length = 17 := by simp [lessTo]; omega
theorem lessTo_set {k : Nat} (h : k < 17) : (lessTo k).set k 255 = lessTo (k + 1) := fill_set (fun _ => (255 : Int)) 0 h
def lessL : List Int := [251, 255, 255, 255, 255, 255, 255, 255, 255, 255, 255, 255, 255, 255, 255, 255, 3]
def aggI (l : List Int) : Value := .agg (l.map iV).toArray

theorem r_less  :
  Con Try.prog 148 [] [] (fun v rs => v = aggI lessL ∧ rs = []) := by
 refine Con.enter Try.func148 Try.ntmps148 (Nat.le_of_ble_eq_true rfl) rfl fun w => ?_
 refine At.seq ?_
 refine At.region ?_
 refine At.s (S_alloc (some 0) 0 (zs := (List.replicate 17 (0 : Int)).map iV) rfl ze191 rfl (fun b0 => ?_))
 refine At.nil ?_
 refine At.next ?_
 refine At.seq ?_
 refine At.region ?_
 refine At.s (S_alloc (some 1) 1 (zs := (lessTo 0).map iV) rfl ze191 rfl (fun b1 => ?_))
 refine At.nil ?_
 refine At.next ?_
 refine At.seq ?_
 refine At.seq ?_
 refine At.region ?_
 refine At.p (some 2) (P_assign rfl rfl) ?_
 refine At.nil ?_
 refine At.next ?_
 refine At.block ?_
 refine At.loopx (I := fun m fr H => ∃ k, m = 16 - k ∧ fr = frOf [(0, ptr b0 0), (1, ptr b1 0), (2, iV (k : Int))] ∧ H = hOf [(0, ⟨true, b0, 0, 191, (List.replicate 17 (0 : Int)).map iV, 0⟩), (1, ⟨true, b1, 0, 191, (lessTo k).map iV, 0⟩)] ∧ k ≤ 16) ?_ ?_
 ·
  intro Kc0 hKc0
  refine At.to [(0, _), (1, _), (2, _)] [(0, _), (1, ⟨true, b1, 0, 191, (lessTo 0).map iV, 0⟩)] (AllL.cons_ (rfl) (AllL.cons_ (rfl) (AllL.cons_ (rfl) trivial))) (AllL.cons_ (rfl) (AllL.cons_ (rfl) trivial)) ?_
  exact hKc0 _ _ _ ⟨0, rfl, rfl, rfl, by omega⟩
 ·
  rintro m fr H ⟨k, rfl, rfl, rfl, hk⟩ Kc0 hKc0
  refine At.seq ?_
  refine At.seq ?_
  refine At.region ?_
  refine At.p (some 3) (P_move rfl rfl) ?_
  refine At.p (some 4) (P_cmp rfl rfl rfl rfl rfl rfl) ?_
  refine At.nil ?_
  refine At.next ?_
  refine At.cond rfl (fun h4 => ?_) (fun h4 => ?_)
  · -- cond 4 t
   have hlt : k < 16 := by simp at h4; omega
   have hl := lessTo_len (show k ≤ 17 by omega)
   refine At.skip ?_
   refine At.next ?_
   refine At.seq ?_
   refine At.block ?_
   refine At.region ?_
   refine At.p (some 7) (P_move rfl rfl) ?_
   refine At.p (some 8) (P_indexAddr_arr1 rfl Try.underlying191 sz3 rfl rfl rfl (by omega)) ?_
   refine At.s (S_storeM none (f := iV) (k := 1) (u := (255 : Int)) rfl rfl rfl sz3 rfl rfl rfl WD ?_)
   refine At.nil ?_
   refine At.inb_n ?_
   refine At.next ?_
   refine At.region ?_
   refine At.p (some 5) (P_move rfl rfl) ?_
   refine At.p (some 6) (P_add_i rfl rfl rfl (by omega)) ?_
   refine At.p (some 2) (P_assign rfl rfl) ?_
   refine At.nil ?_
   refine At.next ?_
   refine At.to [(0, _), (1, _), (2, _)] [(0, _), (1, ⟨true, b1, 0, 191, (lessTo (k + 1)).map iV, 0⟩)] (AllL.cons_ (rfl) (AllL.cons_ (rfl) (AllL.cons_ (rfl) trivial))) (AllL.cons_ (rfl) (AllL.cons_ (congrArg (fun z => some (⟨true, b1, 0, 191, List.map iV z, 0⟩ : Row)) (lessTo_set (by omega))) trivial)) ?_
   exact hKc0 _ _ _ (by omega) ⟨k + 1, rfl, rfl, rfl, by omega⟩
  · -- cond 4 f
   obtain rfl : k = 16 := by simp at h4; omega
   have hl := lessTo_len (show 16 ≤ 17 by decide)
   refine At.exit ?_
   refine At.thn_e ?_
   refine At.thn_e ?_
   refine At.inb_hit ?_
   refine At.next ?_
   refine At.seq ?_
   refine At.region ?_
   refine At.p (some 9) (P_indexAddr_arr1 (j := 0) rfl Try.underlying191 sz3 rfl rfl rfl (by decide)) ?_
   refine At.s (S_storeM none (f := iV) (k := 1) (u := (251 : Int)) rfl rfl rfl sz3 rfl rfl rfl WD ?_)
   refine At.p (some 10) (P_indexAddr_arr1 (j := 16) rfl Try.underlying191 sz3 rfl rfl rfl (by decide)) ?_
   refine At.s (S_storeM none (f := iV) (k := 1) (u := (3 : Int)) rfl rfl rfl sz3 rfl rfl rfl WD ?_)
   refine At.nil ?_
   refine At.next ?_
   refine At.seq ?_
   refine At.region ?_
   refine At.q (some 11) (Q_loadA (k := 1) rfl rfl Try.underlying191 rfl sz191 WD rfl) ?_
   refine At.s (S_storeA none (k := 0) (vs := _) rfl rfl rfl (by first | (rw [sz191]; simp <;> omega) | exact sz191) rfl WA WB rfl WC ?_)
   refine At.nil ?_
   refine At.next ?_
   refine At.ret ?_
   refine At.giveV (.inl rfl) [] (rows' := []) (ResV.cellA (k := 0) rfl rfl Try.underlying191 rfl sz191 (by first | (simp <;> omega) | rfl) rfl) rfl (by simp) (by simp) ?_
   exact ⟨rfl, rfl⟩

def valI : List Int → Int
 | [] => 0
 | x :: l => x + 256 * valI l
theorem valI_set : ∀ (l : List Int) (i : Nat) (x : Int), i < l.length → valI (l.set i x) = valI l + (x - l.getD i 0) * 256 ^ i
 | [], i, x, h => by simp at h
 | a :: l, 0, x, _ => by
  simp only [List.set_cons_zero, valI, List.getD_cons_zero, Int.pow_zero, Int.mul_one]
  omega
 | a :: l, i + 1, x, h => by
  have ih := valI_set l i x (by simpa using h)
  simp only [List.set_cons_succ, valI, List.getD_cons_succ, ih, Int.pow_succ, Int.mul_add]
  rw [Int.mul_comm (256 ^ i) 256, ← Int.mul_assoc (x - l.getD i 0) 256, Int.mul_comm (x - l.getD i 0) 256, Int.mul_assoc]
  omega
theorem valI_app : ∀ (l m : List Int), valI (l ++ m) = valI l + 256 ^ l.length * valI m
 | [], m => by simp [valI]
 | a :: l, m => by
  rw [List.cons_append, valI, valI, valI_app l m, List.length_cons, Int.pow_succ, Int.mul_add, Int.mul_comm (256 ^ l.length) 256, Int.mul_assoc]
  omega
theorem valI_nonneg : ∀ (l : List Int), (∀ x ∈ l, 0 ≤ x) → 0 ≤ valI l
 | [], _ => by simp [valI]
 | a :: l, h => by
  have h1 := h a (by simp)
  have h2 := valI_nonneg l fun x hx => h x (by simp [hx])
  simp only [valI]
  omega
theorem valI_lt : ∀ (l : List Int), (∀ x ∈ l, 0 ≤ x ∧ x < 256) → valI l < 256 ^ l.length
 | [], _ => by simp [valI]
 | a :: l, h => by
  have h1 := h a (by simp)
  have h2 := valI_lt l fun x hx => h x (by simp [hx])
  simp only [valI, List.length_cons, Int.pow_succ]
  rw [Int.mul_comm]
  omega
/-- One carry, at place i. -/
def carryI (l : List Int) (i : Nat) : List Int := (l.set (i + 1) (l.getD (i + 1) 0 + l.getD i 0 / 256)).set i (l.getD i 0 % 256)
theorem carryI_len (l : List Int) (i : Nat) : (carryI l i).length = l.length := by simp [carryI]
theorem carryI_val {l : List Int} {i : Nat} (h : i + 1 < l.length) : valI (carryI l i) = valI l := by
 unfold carryI
 rw [valI_set _ _ _ (by simp; omega), valI_set _ _ _ h]
 have e : (l.set (i + 1) (l.getD (i + 1) 0 + l.getD i 0 / 256)).getD i 0 = l.getD i 0 := by
  simp [List.getD_eq_getElem?_getD, List.getElem?_set]
 rw [e, Int.pow_succ]
 have d := Int.emod_add_mul_ediv (l.getD i 0) 256
 have e2 : (l.getD i 0 % 256 - l.getD i 0) = - (256 * (l.getD i 0 / 256)) := by omega
 have e3 : l.getD (i + 1) 0 + l.getD i 0 / 256 - l.getD (i + 1) 0 = l.getD i 0 / 256 := by omega
 rw [e2, e3, Int.neg_mul, Int.mul_comm (256 ^ i) 256, ← Int.mul_assoc, Int.mul_comm (l.getD i 0 / 256) 256]
 omega
theorem getD_set (l : List Int) (a j : Nat) (x : Int) : (l.set a x).getD j 0 = if a = j ∧ a < l.length then x else l.getD j 0 := by
 rw [List.getD_eq_getElem?_getD, List.getD_eq_getElem?_getD, List.getElem?_set]
 by_cases h : a = j
 ·
  subst h
  by_cases h2 : a < l.length
  · simp [h2]
  · simp [h2]
 · simp [h]
theorem carryI_at {l : List Int} {i j : Nat} (h : i + 1 < l.length) : (carryI l i).getD j 0 = if j = i then l.getD i 0 % 256 else if j = i + 1 then l.getD (i + 1) 0 + l.getD i 0 / 256 else l.getD j 0 := by
 unfold carryI
 rw [getD_set, getD_set, List.length_set]
 by_cases h1 : j = i
 · rw [if_pos ⟨h1.symm, by omega⟩, if_pos h1]
 ·
  rw [if_neg (fun hh => h1 hh.1.symm), if_neg h1]
  by_cases h2 : j = i + 1
  · rw [if_pos ⟨h2.symm, h⟩, if_pos h2]
  · rw [if_neg (fun hh => h2 hh.1.symm), if_neg h2]
/-- The carries have come to place i: what lies below is below 256, what lies there is at most 2 B, behind at most B. -/
def CarI (B : Int) (l : List Int) (i : Nat) : Prop := (∀ j, 0 ≤ l.getD j 0) ∧ (∀ j, j < i → l.getD j 0 < 256) ∧ l.getD i 0 ≤ 2 * B ∧ ∀ j, i < j → l.getD j 0 ≤ B
theorem CarI.step {B : Int} {l : List Int} {i : Nat} (h : CarI B l i) (hB : 0 ≤ B) (hi : i + 1 < l.length) : CarI B (carryI l i) (i + 1) := by
 obtain ⟨h1, h2, h3, h4⟩ := h
 have hi0 := h1 i
 have hi1 := h1 (i + 1)
 have hi2 := h4 (i + 1) (by omega)
 refine ⟨fun j => ?_, fun j hj => ?_, ?_, fun j hj => ?_⟩
 ·
  rw [carryI_at hi]
  have := h1 j
  split
  · omega
  · split <;> omega
 ·
  rw [carryI_at hi]
  split
  · omega
  ·
   rw [if_neg (by omega)]
   exact h2 j (by omega)
 ·
  rw [carryI_at hi, if_neg (by omega), if_pos rfl]
  omega
 ·
  rw [carryI_at hi, if_neg (by omega), if_neg (by omega)]
  exact h4 j (by omega)
theorem pow_hi (i : Nat) (h : 17 ≤ i) : (2 : Int) ^ 130 * 256 ^ (i - 16) = 4 * 256 ^ i ∧ (2 : Int) ^ 130 * (64 * 256 ^ (i - 17)) = 256 ^ i := by
 obtain ⟨k, rfl⟩ : ∃ k, i = k + 17 := ⟨i - 17, by omega⟩
 have e1 : (256 : Int) ^ (k + 17 - 16) = 256 ^ k * 256 := by rw [show k + 17 - 16 = k + 1 by omega, Int.pow_succ]
 have e2 : (256 : Int) ^ (k + 17 - 17) = 256 ^ k := by rw [show k + 17 - 17 = k by omega]
 have e3 : (256 : Int) ^ (k + 17) = 256 ^ k * 256 ^ 17 := Int.pow_add ..
 rw [e1, e2, e3]
 generalize (256 : Int) ^ k = z
 constructor <;> omega

theorem valI_take (l : List Int) (i : Nat) (h : i < l.length) : valI (l.take (i + 1)) = valI (l.take i) + l.getD i 0 * 256 ^ i := by
 have e : l.take (i + 1) = l.take i ++ [l.getD i 0] := by
  rw [List.take_succ_eq_append_getElem h, List.getD_eq_getElem?_getD, List.getElem?_eq_getElem h]
  rfl
 rw [e, valI_app, List.length_take, Nat.min_eq_left (by omega), valI, valI, Int.mul_comm]
 simp
theorem CarI.init {B : Int} {l : List Int} (h : ∀ j, 0 ≤ l.getD j 0 ∧ l.getD j 0 ≤ B) (hB : 0 ≤ B) : CarI B l 0 :=
 ⟨fun j => (h j).1, fun j hj => absurd hj (by omega), by have := h 0; omega, fun j _ => (h j).2⟩
/-- What lies beyond 130 bits moves to G, up to place i. -/
structure HiI (B V : Int) (L G : List Int) (i : Nat) : Prop where
 len : L.length = 40
 glen : G.length = 40
 val : valI L + 2 ^ 130 * valI G = V
 nn : ∀ j, 0 ≤ L.getD j 0
 lo : ∀ j, j < 39 → L.getD j 0 < 256
 top : L.getD 39 0 ≤ 2 * B
 four : 16 < i → L.getD 16 0 < 4
 zero : ∀ j, 16 < j → j < i → L.getD j 0 = 0
 gnn : ∀ j, 0 ≤ G.getD j 0
 gle : ∀ j, G.getD j 0 ≤ 255 + B
 gat : ∀ j, j + 17 = i → i < 40 → G.getD j 0 ≤ 63
 gz : ∀ j, i ≤ j + 16 → G.getD j 0 = 0
theorem getD_rep (n j : Nat) : (List.replicate n (0 : Int)).getD j 0 = 0 := by
 rw [List.getD_eq_getElem?_getD, List.getElem?_replicate]
 split <;> rfl
theorem valI_rep (n : Nat) : valI (List.replicate n (0 : Int)) = 0 := by
 induction n with
 | zero => rfl
 | succ n ih => rw [List.replicate_succ, valI, ih]; rfl
theorem HiI.init {B V : Int} {L : List Int} (hl : L.length = 40) (hv : valI L = V) (h : CarI B L 39) (hB : 0 ≤ B) : HiI B V L (List.replicate 40 (0 : Int)) 16 := by
 obtain ⟨h1, h2, h3, h4⟩ := h
 refine ⟨hl, by simp, by rw [valI_rep, hv]; omega, h1, fun j hj => h2 j hj, h3, fun h => absurd h (by omega), fun j a b => absurd a (by omega), fun j => ?_, fun j => ?_, fun j _ _ => ?_, fun j _ => getD_rep 40 j⟩
 · rw [getD_rep]; omega
 · rw [getD_rep]; omega
 · rw [getD_rep]; omega
theorem HiI.step0 {B V : Int} {L G : List Int} (h : HiI B V L G 16) (hB : 0 ≤ B) : HiI B V (L.set 16 (L.getD 16 0 % 4)) (G.set 0 (L.getD 16 0 / 4)) 17 := by
 obtain ⟨h1, h2, h3, h4, h5, h6, h7, h8, h9, h10, h11, h12⟩ := h
 have a1 := h4 16
 have a2 := h5 16 (by omega)
 have g0 := h12 0 (by omega)
 refine ⟨by simp [h1], by simp [h2], ?_, fun j => ?_, fun j hj => ?_, ?_, fun _ => ?_, fun j a b => absurd a (by omega), fun j => ?_, fun j => ?_, fun j hj _ => ?_, fun j hj => ?_⟩
 ·
  rw [valI_set _ _ _ (by omega), valI_set _ _ _ (by omega), g0]
  generalize valI L = vl at *
  generalize valI G = vg at *
  omega
 ·
  rw [getD_set]
  have := h4 j
  split <;> omega
 ·
  rw [getD_set]
  have := h5 j hj
  split <;> omega
 ·
  rw [getD_set, if_neg (by omega)]
  exact h6
 ·
  rw [getD_set, if_pos (by omega)]
  omega
 ·
  rw [getD_set]
  have := h9 j
  split <;> omega
 ·
  rw [getD_set]
  have := h10 j
  split <;> omega
 ·
  rw [getD_set]
  obtain rfl : j = 0 := by omega
  rw [if_pos (by omega)]
  omega
 ·
  rw [getD_set, if_neg (by omega)]
  exact h12 j (by omega)
theorem HiI.step0' {B V : Int} {L G : List Int} {i : Nat} (h : HiI B V L G i) (hB : 0 ≤ B) (hi : i = 16) : HiI B V (L.set 16 (L.getD i 0 % 4)) (G.set 0 (L.getD i 0 / 4)) (i + 1) := by
 subst hi
 exact h.step0 hB
theorem HiI.step {B V : Int} {L G : List Int} {i : Nat} (h : HiI B V L G i) (hB : 0 ≤ B) (hi : 16 < i) (hi2 : i < 40) :
  HiI B V (L.set i 0) ((G.set (i - 16) (G.getD (i - 16) 0 + L.getD i 0 / 4)).set (i - 17) ((G.set (i - 16) (G.getD (i - 16) 0 + L.getD i 0 / 4)).getD (i - 17) 0 + L.getD i 0 % 4 * 64)) (i + 1) := by
 obtain ⟨h1, h2, h3, h4, h5, h6, h7, h8, h9, h10, h11, h12⟩ := h
 have a1 := h4 i
 have a2 : i < 39 → L.getD i 0 < 256 := fun h => h5 i h
 have a3 : i = 39 → L.getD i 0 ≤ 2 * B := fun h => by rw [h]; exact h6
 have g0 := h12 (i - 16) (by omega)
 have g1 : (G.set (i - 16) (G.getD (i - 16) 0 + L.getD i 0 / 4)).getD (i - 17) 0 = G.getD (i - 17) 0 := by rw [getD_set, if_neg (by omega)]
 have g2 := h11 (i - 17) (by omega) hi2
 have g3 := h9 (i - 17)
 rw [g1]
 have key : ∀ j, ((G.set (i - 16) (G.getD (i - 16) 0 + L.getD i 0 / 4)).set (i - 17) (G.getD (i - 17) 0 + L.getD i 0 % 4 * 64)).getD j 0 = if j = i - 17 then G.getD (i - 17) 0 + L.getD i 0 % 4 * 64 else if j = i - 16 then L.getD i 0 / 4 else G.getD j 0 := fun j => by
  rw [getD_set, getD_set, List.length_set, g0, Int.zero_add]
  by_cases e1 : j = i - 17
  · rw [if_pos ⟨e1.symm, by omega⟩, if_pos e1]
  ·
   rw [if_neg (fun hh => e1 hh.1.symm), if_neg e1]
   by_cases e2 : j = i - 16
   · rw [if_pos ⟨e2.symm, by omega⟩, if_pos e2]
   · rw [if_neg (fun hh => e2 hh.1.symm), if_neg e2]
 refine ⟨by simp [h1], by simp [h2], ?_, fun j => ?_, fun j hj => ?_, ?_, fun _ => ?_, fun j a b => ?_, fun j => ?_, fun j => ?_, fun j hj hj2 => ?_, fun j hj => ?_⟩
 ·
  rw [valI_set _ _ _ (by omega), valI_set _ _ _ (by rw [List.length_set]; omega), valI_set _ _ _ (by omega), g1, g0]
  obtain ⟨k, rfl⟩ : ∃ k, i = k + 17 := ⟨i - 17, by omega⟩
  obtain ⟨p1, p2⟩ := pow_hi (k + 17) (by omega)
  rw [show k + 17 - 16 = k + 1 by omega, show k + 17 - 17 = k by omega] at *
  generalize valI L = vl at *
  generalize valI G = vg at *
  generalize G.getD k 0 = gk at *
  generalize L.getD (k + 17) 0 = x at *
  generalize (256 : Int) ^ (k + 17) = P at *
  generalize (256 : Int) ^ (k + 1) = P1 at *
  generalize (256 : Int) ^ k = P0 at *
  have e1 : x = 4 * (x / 4) + x % 4 := by omega
  have f1 : 2 ^ 130 * (x / 4 * P1) = 4 * P * (x / 4) := by rw [← p1, Int.mul_comm (x / 4), Int.mul_assoc]
  have f2 : 2 ^ 130 * (x % 4 * 64 * P0) = P * (x % 4) := by
   rw [← p2, Int.mul_assoc, Int.mul_comm (x % 4), Int.mul_assoc, Int.mul_assoc (2 ^ 130), Int.mul_assoc 64]
  have f3 : x * P = 4 * P * (x / 4) + P * (x % 4) := by
   rw [Int.mul_comm 4 P, Int.mul_assoc, ← Int.mul_add, ← e1, Int.mul_comm]
  rw [show (0 : Int) + x / 4 - 0 = x / 4 by omega, show gk + x % 4 * 64 - gk = x % 4 * 64 by omega, Int.sub_mul, Int.mul_add, Int.mul_add, f1, f2, f3]
  omega
 ·
  rw [getD_set]
  have := h4 j
  split <;> omega
 ·
  rw [getD_set]
  have := h5 j hj
  split <;> omega
 ·
  rw [getD_set]
  split <;> omega
 ·
  rw [getD_set, if_neg (by omega)]
  exact h7 (by omega)
 ·
  rw [getD_set]
  by_cases e : i = j
  · rw [if_pos ⟨e, by omega⟩]
  ·
   rw [if_neg (fun hh => e hh.1)]
   exact h8 j a (by omega)
 ·
  rw [key]
  have := h9 j
  split
  · omega
  · split <;> omega
 ·
  rw [key]
  have := h10 j
  split
  · omega
  · split <;> omega
 ·
  rw [key, if_neg (by omega), if_pos (by omega)]
  omega
 ·
  rw [key, if_neg (by omega), if_neg (by omega)]
  exact h12 j (by omega)
theorem valI_low : ∀ (l : List Int) (n : Nat), (∀ j, 0 ≤ l.getD j 0) → (∀ j, j < n → l.getD j 0 < 256) → (∀ j, n < j → l.getD j 0 = 0) → n < l.length → 0 ≤ valI l ∧ valI l < (l.getD n 0 + 1) * 256 ^ n
 | [], n, _, _, _, h => by simp at h
 | a :: l, 0, h1, h2, h3, h => by
  have hz : valI l = 0 := by
   have : ∀ (l : List Int), (∀ j, l.getD j 0 = 0) → valI l = 0 := fun l => by
    induction l with
    | nil => exact fun _ => rfl
    | cons b l ih =>
     intro hh
     have h0 := hh 0
     simp only [List.getD_cons_zero] at h0
     rw [valI, ih fun j => by have := hh (j + 1); simpa using this, h0]
     rfl
   exact this l fun j => by have := h3 (j + 1) (by omega); simpa using this
  have h0 := h1 0
  simp only [List.getD_cons_zero] at h0 ⊢
  rw [valI, hz]
  omega
 | a :: l, n + 1, h1, h2, h3, h => by
  have ih := valI_low l n (fun j => by have := h1 (j + 1); simpa using this) (fun j hj => by have := h2 (j + 1) (by omega); simpa using this) (fun j hj => by have := h3 (j + 1) (by omega); simpa using this) (by simpa using h)
  have h0 := h1 0
  have h00 := h2 0 (by omega)
  simp only [List.getD_cons_zero] at h0 h00
  simp only [List.getD_cons_succ, valI, Int.pow_succ]
  obtain ⟨i1, i2⟩ := ih
  rw [← Int.mul_assoc]
  generalize (l.getD n 0 + 1) * 256 ^ n = z at *
  omega
theorem HiI.fin {B V : Int} {L G : List Int} (h : HiI B V L G 40) : valI L = V % 2 ^ 130 ∧ valI G = V / 2 ^ 130 := by
 obtain ⟨h1, h2, h3, h4, h5, h6, h7, h8, h9, h10, h11, h12⟩ := h
 have z : ∀ j, 16 < j → L.getD j 0 = 0 := fun j hj => by
  by_cases e : j < 40
  · exact h8 j hj e
  · rw [List.getD_eq_getElem?_getD, List.getElem?_eq_none (by omega)]; rfl
 obtain ⟨v1, v2⟩ := valI_low L 16 h4 (fun j hj => h5 j (by omega)) z (by omega)
 have f := h7 (by omega)
 have : valI L < 2 ^ 130 := by
  refine Int.lt_of_lt_of_le v2 ?_
  have : (2 : Int) ^ 130 = 4 * 256 ^ 16 := by decide
  rw [this]
  exact Int.mul_le_mul_of_nonneg_right (by omega) (by decide)
 rw [← h3]
 generalize valI L = a at *
 generalize valI G = b at *
 omega
/-- Five times of it is added, up to place i. -/
structure AdI (C : Int) (L G M : List Int) (i : Nat) : Prop where
 len : M.length = 40
 val : valI M = valI L + 5 * valI (G.take i)
 same : ∀ j, i ≤ j → M.getD j 0 = L.getD j 0
 le : ∀ j, 0 ≤ M.getD j 0 ∧ M.getD j 0 ≤ C
theorem AdI.step {C : Int} {L G M : List Int} {i : Nat} (h : AdI C L G M i) (hi : i < 40) (hg : G.length = 40) (h0 : 0 ≤ G.getD i 0) (h1 : L.getD i 0 + 5 * G.getD i 0 ≤ C) : AdI C L G (M.set i (M.getD i 0 + 5 * G.getD i 0)) (i + 1) := by
 obtain ⟨a1, a2, a3, a4⟩ := h
 have e := a3 i (by omega)
 have e1 := a4 i
 refine ⟨by simp [a1], ?_, fun j hj => ?_, fun j => ?_⟩
 ·
  rw [valI_set _ _ _ (by omega), valI_take _ _ (by omega), a2]
  rw [show M.getD i 0 + 5 * G.getD i 0 - M.getD i 0 = 5 * G.getD i 0 by omega, Int.mul_add, Int.mul_assoc]
  omega
 ·
  rw [getD_set, if_neg (by omega)]
  exact a3 j (by omega)
 ·
  rw [getD_set]
  have := a4 j
  split
  · omega
  · exact this
/-- What a round leaves. -/
def bR : Nat → Int
 | 0 => 67108864
 | r + 1 => 16 * bR r
def rV (V : Int) : Nat → Int
 | 0 => V
 | r + 1 => rV V r % 2 ^ 130 + 5 * (rV V r / 2 ^ 130)
theorem bR_le {r : Nat} (h : r ≤ 4) : 1000 ≤ bR r ∧ bR r ≤ 4398046511104 := by
 have : r = 0 ∨ r = 1 ∨ r = 2 ∨ r = 3 ∨ r = 4 := by omega
 rcases this with rfl | rfl | rfl | rfl | rfl <;> decide
def P130 : Int := 2 ^ 130 - 5
theorem rV_mod (V : Int) (r : Nat) : rV V r % P130 = V % P130 := by
 induction r with
 | zero => rfl
 | succ r ih =>
  rw [← ih, rV]
  have e : rV V r = rV V r % 2 ^ 130 + 5 * (rV V r / 2 ^ 130) + P130 * (rV V r / 2 ^ 130) := by
   unfold P130
   omega
  rw [show (rV V r) % P130 = (rV V r % 2 ^ 130 + 5 * (rV V r / 2 ^ 130) + P130 * (rV V r / 2 ^ 130)) % P130 from congrArg (· % P130) e, Int.add_mul_emod_self_left]
/-- 2 to the power of 272. -/
def big : Int := 7588550360256754183279148073529370729071901715047420004889892225542594864082845696
theorem rV_lt {V : Int} (h0 : 0 ≤ V) (h : V < big) : 0 ≤ rV V 4 ∧ rV V 4 < 2 ^ 130 := by
 unfold big at h
 simp only [rV]
 omega
theorem digs_lt {l : List Int} (h : l.length = 40) (hn : ∀ j, 0 ≤ l.getD j 0) (hl : ∀ j, j < 39 → l.getD j 0 < 256) (hv : valI l < 256 ^ 17) : valI (l.take 17) = valI l := by
 have e : l = l.take 17 ++ l.drop 17 := (List.take_append_drop 17 l).symm
 have e2 := valI_app (l.take 17) (l.drop 17)
 rw [← e, List.length_take, Nat.min_eq_left (by omega)] at e2
 have n1 : 0 ≤ valI (l.take 17) := valI_nonneg _ fun x hx => by
  obtain ⟨j, hj, rfl⟩ := List.mem_iff_getElem.1 (List.mem_of_mem_take hx)
  have := hn j
  rwa [List.getD_eq_getElem?_getD, List.getElem?_eq_getElem hj] at this
 have n2 : 0 ≤ valI (l.drop 17) := valI_nonneg _ fun x hx => by
  obtain ⟨j, hj, rfl⟩ := List.mem_iff_getElem.1 (List.mem_of_mem_drop hx)
  have := hn j
  rwa [List.getD_eq_getElem?_getD, List.getElem?_eq_getElem hj] at this
 generalize valI (l.take 17) = a at *
 generalize valI (l.drop 17) = b at *
 generalize valI l = c at *
 omega
theorem valI_lt' {l : List Int} (hn : ∀ j, 0 ≤ l.getD j 0 ∧ l.getD j 0 < 256) : 0 ≤ valI l ∧ valI l < 256 ^ l.length := by
 have : ∀ x ∈ l, 0 ≤ x ∧ x < 256 := fun x hx => by
  obtain ⟨j, hj, rfl⟩ := List.mem_iff_getElem.1 hx
  have := hn j
  rwa [List.getD_eq_getElem?_getD, List.getElem?_eq_getElem hj] at this
 exact ⟨valI_nonneg l fun x hx => (this x hx).1, valI_lt l this⟩
theorem getD_take (l : List Int) (n j : Nat) : (l.take n).getD j 0 = if j < n then l.getD j 0 else 0 := by
 rw [List.getD_eq_getElem?_getD, List.getElem?_take]
 split
 · rw [List.getD_eq_getElem?_getD]
 · rfl
/-- The highest place at which they are unlike decides. -/
theorem above_step {a b : List Int} {i : Nat} (ha : i < a.length) (hb : i < b.length) (ra : ∀ j, 0 ≤ a.getD j 0 ∧ a.getD j 0 < 256) (rb : ∀ j, 0 ≤ b.getD j 0 ∧ b.getD j 0 < 256) :
  (a.getD i 0 ≠ b.getD i 0 → (valI (b.take (i + 1)) ≤ valI (a.take (i + 1)) ↔ b.getD i 0 < a.getD i 0)) ∧ (a.getD i 0 = b.getD i 0 → (valI (b.take (i + 1)) ≤ valI (a.take (i + 1)) ↔ valI (b.take i) ≤ valI (a.take i))) := by
 have t : ∀ l : List Int, (∀ j, 0 ≤ l.getD j 0 ∧ l.getD j 0 < 256) → i < l.length → 0 ≤ valI (l.take i) ∧ valI (l.take i) < 256 ^ i := fun l h hl => by
  have := valI_lt' (l := l.take i) (fun j => by rw [getD_take]; have := h j; split <;> omega)
  rwa [List.length_take, Nat.min_eq_left (by omega)] at this
 obtain ⟨a1, a2⟩ := t a ra ha
 obtain ⟨b1, b2⟩ := t b rb hb
 rw [valI_take a i ha, valI_take b i hb]
 generalize valI (a.take i) = va at *
 generalize valI (b.take i) = vb at *
 generalize a.getD i 0 = x at *
 generalize b.getD i 0 = y at *
 generalize (256 : Int) ^ i = P at *
 constructor
 ·
  intro hne
  by_cases hxy : y < x
  ·
   have h1 := Int.mul_le_mul_of_nonneg_right (show y + 1 ≤ x by omega) (show 0 ≤ P by omega)
   rw [Int.add_mul, Int.one_mul] at h1
   exact ⟨fun _ => hxy, fun _ => by omega⟩
  ·
   have h1 := Int.mul_le_mul_of_nonneg_right (show x + 1 ≤ y by omega) (show 0 ≤ P by omega)
   rw [Int.add_mul, Int.one_mul] at h1
   exact ⟨fun h => by omega, fun h => absurd h hxy⟩
 ·
  intro he
  subst he
  omega
/-- The lesser is taken off, up to place i. -/
structure SuI (O p N : List Int) (i : Nat) (w : Int) : Prop where
 len : N.length = 17
 w01 : w = 0 ∨ w = 1
 val : valI (N.take i) = valI (O.take i) - valI (p.take i) + w * 256 ^ i
 same : ∀ j, i ≤ j → N.getD j 0 = O.getD j 0
 dig : ∀ j, 0 ≤ N.getD j 0 ∧ N.getD j 0 < 256
theorem SuI.step {O p N : List Int} {i : Nat} {w x : Int} (h : SuI O p N i w) (hi : i < 17) (hO : O.length = 17) (hp : p.length = 17) (rp : ∀ j, 0 ≤ p.getD j 0 ∧ p.getD j 0 < 256)
  (hx : x = N.getD i 0 - p.getD i 0 - w) : (x < 0 → SuI O p (N.set i (x + 256)) (i + 1) 1) ∧ (¬ x < 0 → SuI O p (N.set i x) (i + 1) 0) := by
 obtain ⟨a1, a2, a3, a4, a5⟩ := h
 have e0 := a4 i (by omega)
 have e1 := a5 i
 have e2 := rp i
 have tk : ∀ y, valI ((N.set i y).take (i + 1)) = valI (N.take i) + y * 256 ^ i := fun y => by
  rw [valI_take _ _ (by rw [List.length_set]; omega), List.take_set_of_le (by omega), getD_set, if_pos ⟨rfl, by omega⟩]
 have dg : ∀ y, 0 ≤ y → y < 256 → ∀ j, 0 ≤ (N.set i y).getD j 0 ∧ (N.set i y).getD j 0 < 256 := fun y h1 h2 j => by
  rw [getD_set]
  split
  · exact ⟨h1, h2⟩
  · exact a5 j
 have sm : ∀ y, ∀ j, i + 1 ≤ j → (N.set i y).getD j 0 = O.getD j 0 := fun y j hj => by
  rw [getD_set, if_neg (by omega)]
  exact a4 j (by omega)
 have w2 : 0 ≤ w ∧ w ≤ 1 := by rcases a2 with rfl | rfl <;> decide
 constructor
 ·
  intro hn
  refine ⟨by simp [a1], .inr rfl, ?_, sm _, dg _ (by omega) (by omega)⟩
  rw [tk, valI_take O i (by omega), valI_take p i (by omega), a3, hx, e0, Int.pow_succ]
  generalize (256 : Int) ^ i = P
  rw [Int.add_mul, Int.sub_mul, Int.sub_mul]
  omega
 ·
  intro hn
  refine ⟨by simp [a1], .inl rfl, ?_, sm _, dg _ (by omega) (by omega)⟩
  rw [tk, valI_take O i (by omega), valI_take p i (by omega), a3, hx, e0]
  generalize (256 : Int) ^ i = P
  rw [Int.sub_mul, Int.sub_mul]
  omega
theorem cut_fin {V v : Int} (hv : 0 ≤ v) (h : v < 2 ^ 130) (hm : v % P130 = V % P130) : (P130 ≤ v → v - P130 = V % P130) ∧ (¬ P130 ≤ v → v = V % P130) := by
 unfold P130 at *
 omega

theorem HiI.ad {B V C : Int} {L G : List Int} (h : HiI B V L G 40) (hC : 256 ≤ C) : AdI C L G L 0 := by
 refine ⟨h.len, by rw [List.take_zero, valI]; omega, fun _ _ => rfl, fun j => ⟨h.nn j, ?_⟩⟩
 by_cases h1 : j < 39
 ·
  have := h.lo j h1
  omega
 ·
  by_cases h2 : j < 40
  · rw [h.zero j (by omega) h2]; omega
  ·
   rw [List.getD_eq_getElem?_getD, List.getElem?_eq_none (by have := h.len; omega)]
   exact Int.le_trans (by decide) hC
theorem HiI.small {B V : Int} {L G : List Int} (h : HiI B V L G 40) (i : Nat) (hi : i < 40) : L.getD i 0 < 256 := by
 by_cases h1 : i < 39
 · exact h.lo i h1
 · rw [h.zero i (by omega) hi]; decide
theorem HiI.le2 {B V : Int} {L G : List Int} {i : Nat} (h : HiI B V L G i) (hB : 1000 ≤ B) (hi : i < 40) : L.getD i 0 ≤ 2 * B := by
 by_cases h1 : i < 39
 ·
  have := h.lo i h1
  omega
 ·
  obtain rfl : i = 39 := by omega
  exact h.top
theorem AdI.fin {C V B : Int} {L G M : List Int} (h : AdI C L G M 40) (h2 : HiI B V L G 40) : valI M = V % 2 ^ 130 + 5 * (V / 2 ^ 130) := by
 rw [h.val, List.take_of_length_le (by have := h2.glen; omega), h2.fin.1, h2.fin.2]
def pOut (L : List Int) (k : Nat) : List Int := (List.range k).map (fun j => L.getD j 0) ++ List.replicate (17 - k) 0
theorem pOut_len (L : List Int) {k : Nat} (h : k ≤ 17) : (pOut L k).length = 17 := by simp [pOut]; omega
theorem pOut_set (L : List Int) {k : Nat} (h : k < 17) : (pOut L k).set k (L.getD k 0) = pOut L (k + 1) := fill_set (fun j => L.getD j 0) 0 h
theorem outTo_fin {L : List Int} (h : L.length = 40) : pOut L 17 = L.take 17 := by
 apply List.ext_getElem?
 intro j
 rw [List.getElem?_take]
 by_cases hj : j < 17
 ·
  rw [if_pos hj, pOut]
  simp [hj, List.getElem?_append, List.getD_eq_getElem?_getD]
  rw [List.getElem?_eq_getElem (show j < L.length by omega)]
  simp
 · rw [if_neg hj, List.getElem?_eq_none (by rw [pOut_len L (by decide)]; omega)]
def OutI (V : Int) (O : List Int) : Prop := O.length = 17 ∧ (∀ j, 0 ≤ O.getD j 0 ∧ O.getD j 0 < 256) ∧ valI O = V
theorem out_of {B : Int} {L : List Int} {V : Int} (hl : L.length = 40) (hv : valI L = V) (h : CarI B L 39) (hV : V < 2 ^ 130) : OutI V (pOut L 17) := by
 have e := digs_lt hl h.1 h.2.1 (by rw [hv]; omega)
 rw [outTo_fin hl]
 refine ⟨by rw [List.length_take]; omega, fun j => ?_, by rw [e, hv]⟩
 rw [getD_take]
 have a := h.1 j
 split
 · exact ⟨a, h.2.1 j (by omega)⟩
 · omega
theorem SuI.fin {O p N : List Int} {w V v : Int} (h : SuI O p N 17 w) (hO : OutI v O) (hp : p.length = 17) (hpv : valI p = P130) (hge : P130 ≤ v) (h0 : 0 ≤ v) (hlt : v < 2 ^ 130) (hm : v % P130 = V % P130) : OutI (V % P130) N := by
 have a := h.val
 have b := valI_lt' h.dig
 rw [h.len] at b
 rw [List.take_of_length_le (by rw [h.len]; decide), List.take_of_length_le (by rw [hO.1]; decide), List.take_of_length_le (by rw [hp]; decide), hO.2.2, hpv] at a
 have c := (cut_fin h0 hlt hm).1 hge
 refine ⟨h.len, h.dig, ?_⟩
 rcases h.w01 with rfl | rfl
 · omega
 ·
  unfold P130 at *
  omega

theorem less_val : valI lessL = P130 := by decide
theorem less_dig : ∀ j, 0 ≤ lessL.getD j 0 ∧ lessL.getD j 0 < 256 := fun j => by
 by_cases h : j < 17
 ·
  have : ∀ j : Fin 17, 0 ≤ lessL.getD j.1 0 ∧ lessL.getD j.1 0 < 256 := by decide
  exact this ⟨j, h⟩
 ·
  rw [List.getD_eq_getElem?_getD, List.getElem?_eq_none (by show 17 ≤ j; omega)]
  decide

theorem valI_nn {l : List Int} (h : ∀ j, 0 ≤ l.getD j 0) : 0 ≤ valI l := valI_nonneg l fun x hx => by
 obtain ⟨j, hj, rfl⟩ := List.mem_iff_getElem.1 hx
 have := h j
 rwa [List.getD_eq_getElem?_getD, List.getElem?_eq_getElem hj] at this

theorem p_cut (l : List Int) (hl : l.length = 40) (hb : ∀ j, 0 ≤ l.getD j 0 ∧ l.getD j 0 ≤ bR 0) (hval : valI l < big) :
  Con Try.prog 143 [aggI l] [] (fun v rs => ∃ O, OutI (valI l % P130) O ∧ v = aggI O ∧ rs = []) := by
 refine Con.enter Try.func143 Try.ntmps143 (Nat.le_of_ble_eq_true rfl) rfl fun w => ?_
 refine At.seq ?_
 obtain ⟨V, hV⟩ : ∃ V, V = valI l := ⟨_, rfl⟩
 rw [← hV] at hval ⊢
 have hV0 : 0 ≤ V := by rw [hV]; exact valI_nn fun j => (hb j).1
 have hv4 := rV_lt hV0 hval
 replace hV : valI l = rV V 0 := hV.symm
 refine At.region ?_
 refine At.s (S_box (some 1) 1 (zs := l.map iV) rfl rfl rfl (fun b1 => ?_))
 refine At.s (S_alloc (some 2) 2 (zs := (List.replicate 17 (0 : Int)).map iV) rfl ze191 rfl (fun b2 => ?_))
 refine At.nil ?_
 refine At.next ?_
 refine At.seq ?_
 refine At.seq ?_
 refine At.region ?_
 refine At.p (some 3) (P_assign rfl rfl) ?_
 refine At.nil ?_
 refine At.next ?_
 refine At.block ?_
 refine At.loopx (I := fun m fr H => ∃ (r : Nat) (L : List Int), m = 4 - r ∧ fr = frOf [(1, ptr b1 0), (2, ptr b2 0), (3, iV (r : Int))] ∧ H = hOf [(1, ⟨true, b1, 0, 192, L.map iV, 0⟩), (2, ⟨true, b2, 0, 191, (List.replicate 17 (0 : Int)).map iV, 0⟩)] ∧ r ≤ 4 ∧ L.length = 40 ∧ (∀ j, 0 ≤ L.getD j 0 ∧ L.getD j 0 ≤ bR r) ∧ valI L = rV V r) ?_ ?_
 ·
  intro Kc0 hKc0
  refine At.to [(1, _), (2, _), (3, _)] [(1, _), (2, _)] (AllL.cons_ (rfl) (AllL.cons_ (rfl) (AllL.cons_ (rfl) trivial))) (AllL.cons_ (rfl) (AllL.cons_ (rfl) trivial)) ?_
  exact hKc0 _ _ _ ⟨0, l, rfl, rfl, rfl, by omega, hl, hb, hV⟩
 ·
  rintro m fr H ⟨r, L, rfl, rfl, rfl, hr, hL, hb, hv⟩ Kc0 hKc0
  refine At.seq ?_
  refine At.seq ?_
  refine At.region ?_
  refine At.p (some 18) (P_move rfl rfl) ?_
  refine At.p (some 19) (P_cmp rfl rfl rfl rfl rfl rfl) ?_
  refine At.nil ?_
  refine At.next ?_
  refine At.cond rfl (fun h19 => ?_) (fun h19 => ?_)
  · -- cond 19 t
   have hlt4 : r < 4 := by simp at h19; omega
   obtain ⟨k1, k2⟩ := bR_le hr
   have k3 : bR (r + 1) = 16 * bR r := rfl
   refine At.skip ?_
   refine At.next ?_
   refine At.seq ?_
   refine At.block ?_
   refine At.seq ?_
   refine At.seq ?_
   refine At.region ?_
   refine At.p (some 4) (P_assign rfl rfl) ?_
   refine At.nil ?_
   refine At.next ?_
   refine At.block ?_
   refine At.loopx (I := fun m fr H => ∃ (i : Nat) (M : List Int), m = 39 - i ∧ fr = frOf [(1, ptr b1 0), (2, ptr b2 0), (3, iV (r : Int)), (4, iV (i : Int))] ∧ H = hOf [(1, ⟨true, b1, 0, 192, M.map iV, 0⟩), (2, ⟨true, b2, 0, 191, (List.replicate 17 (0 : Int)).map iV, 0⟩)] ∧ i ≤ 39 ∧ M.length = 40 ∧ valI M = rV V r ∧ CarI (bR r) M i) ?_ ?_
   ·
    intro Kc1 hKc1
    refine At.to [(1, _), (2, _), (3, _), (4, _)] [(1, _), (2, _)] (AllL.cons_ (rfl) (AllL.cons_ (rfl) (AllL.cons_ (rfl) (AllL.cons_ (rfl) trivial)))) (AllL.cons_ (rfl) (AllL.cons_ (rfl) trivial)) ?_
    exact hKc1 _ _ _ ⟨0, L, rfl, rfl, rfl, by omega, hL, hv, CarI.init hb (by omega)⟩
   ·
    rintro m fr H ⟨i, M, rfl, rfl, rfl, hi, hM, hMv, hC⟩ Kc1 hKc1
    refine At.seq ?_
    refine At.seq ?_
    refine At.region ?_
    refine At.p (some 22) (P_move rfl rfl) ?_
    refine At.p (some 23) (P_cmp rfl rfl rfl rfl rfl rfl) ?_
    refine At.nil ?_
    refine At.next ?_
    refine At.cond rfl (fun h23 => ?_) (fun h23 => ?_)
    · -- cond 23 t
     have hlt : i < 39 := by simp at h23; omega
     have c0 := hC.1 i
     have c1 := hC.1 (i + 1)
     have c2 := hC.2.2.1
     have c3 := hC.2.2.2 (i + 1) (by omega)
     have eg : (M.set (i + 1) (M.getD (i + 1) 0 + M.getD i 0 / 256)).getD i 0 = M.getD i 0 := by rw [getD_set, if_neg (by omega)]
     refine At.skip ?_
     refine At.next ?_
     refine At.seq ?_
     refine At.block ?_
     refine At.seq ?_
     refine At.draws 11 [] [.q false [0, 1, 2, 3, 4, 5, 6, 7, 8, 9, 10]] (by kernel_rfl) (by kernel_rfl) ?_
     refine At.wp (some 26) (P_move rfl rfl) ?_
     refine At.wp (some 27) (P_add_i rfl rfl rfl (by omega)) ?_
     refine At.wp (some 28) (P_move rfl rfl) ?_
     refine At.wp (some 29) (P_add_i rfl rfl rfl (by omega)) ?_
     refine At.wp (some 30) (P_indexAddr_arr1 (j := i + 1) rfl Try.underlying192 sz3 rfl rfl (by omega) (by omega)) ?_
     refine At.wq (some 31) (Q_loadM (k := 1) (0 : Int) rfl rfl Try.underlying3 rfl rfl WD) ?_
     refine At.wp (some 32) (P_move rfl rfl) ?_
     refine At.wp (some 33) (P_indexAddr_arr1 rfl Try.underlying192 sz3 rfl rfl rfl (by omega)) ?_
     refine At.wq (some 34) (Q_loadM (k := 1) (0 : Int) rfl rfl Try.underlying3 rfl rfl WD) ?_
     refine At.wp (some 35) (P_quo_i rfl rfl rfl (by omega) (by omega) (by first | decide | omega)) ?_
     refine At.wp (some 36) (P_add_i rfl rfl rfl (by omega)) ?_
     refine At.wqn ?_
     refine At.wt rfl ?_
     refine At.p (some 37) (P_indexAddr_arr1 (j := i + 1) rfl Try.underlying192 sz3 rfl rfl (by omega) (by omega)) ?_
     refine At.s (S_storeM none (f := iV) (k := 1) rfl rfl rfl sz3 rfl rfl rfl WD ?_)
     refine At.nil ?_
     refine At.next ?_
     refine At.region ?_
     refine At.p (some 38) (P_move rfl rfl) ?_
     refine At.p (some 39) (P_move rfl rfl) ?_
     refine At.p (some 40) (P_indexAddr_arr1 rfl Try.underlying192 sz3 rfl rfl rfl (by omega)) ?_
     refine At.q (some 41) (Q_loadM (k := 1) (0 : Int) rfl rfl Try.underlying3 rfl rfl WD) ?_
     refine At.p (some 42) (P_rem_i rfl rfl rfl (by omega) (by first | decide | omega)) ?_
     refine At.p (some 43) (P_indexAddr_arr1 rfl Try.underlying192 sz3 rfl rfl rfl (by omega)) ?_
     refine At.s (S_storeM none (f := iV) (k := 1) rfl rfl rfl sz3 rfl rfl rfl WD ?_)
     refine At.nil ?_
     refine At.inb_n ?_
     refine At.next ?_
     refine At.region ?_
     refine At.p (some 24) (P_move rfl rfl) ?_
     refine At.p (some 25) (P_add_i rfl rfl rfl (by omega)) ?_
     refine At.p (some 4) (P_assign rfl rfl) ?_
     refine At.nil ?_
     refine At.next ?_
     refine At.to [(1, _), (2, _), (3, _), (4, _)] [(1, ⟨true, b1, 0, 192, (carryI M i).map iV, 0⟩), (2, _)] (AllL.cons_ (rfl) (AllL.cons_ (rfl) (AllL.cons_ (rfl) (AllL.cons_ (rfl) trivial)))) (AllL.cons_ (congrArg (fun z => some (⟨true, b1, 0, 192, List.map iV z, 0⟩ : Row)) (by simp only [carryI, eg])) (AllL.cons_ (rfl) trivial)) ?_
     exact hKc1 _ _ _ (by omega) ⟨i + 1, carryI M i, rfl, rfl, rfl, by omega, by rw [carryI_len]; exact hM, by rw [carryI_val (by omega)]; exact hMv, hC.step (by omega) (by omega)⟩
    · -- cond 23 f
     obtain rfl : i = 39 := by simp at h23; omega
     refine At.exit ?_
     refine At.thn_e ?_
     refine At.thn_e ?_
     refine At.inb_hit ?_
     refine At.next ?_
     refine At.seq ?_
     refine At.region ?_
     refine At.s (S_alloc (some 5) 5 (zs := (List.replicate 40 (0 : Int)).map iV) rfl ze192 rfl (fun b5 => ?_))
     refine At.nil ?_
     refine At.next ?_
     refine At.seq ?_
     refine At.seq ?_
     refine At.region ?_
     refine At.p (some 6) (P_assign rfl rfl) ?_
     refine At.nil ?_
     refine At.next ?_
     refine At.block ?_
     refine At.loopx (I := fun m fr H => ∃ (i : Nat) (M : List Int) (G : List Int), m = 40 - i ∧ fr = frOf [(1, ptr b1 0), (2, ptr b2 0), (3, iV (r : Int)), (5, ptr b5 0), (6, iV (i : Int))] ∧ H = hOf [(1, ⟨true, b1, 0, 192, M.map iV, 0⟩), (2, ⟨true, b2, 0, 191, (List.replicate 17 (0 : Int)).map iV, 0⟩), (5, ⟨true, b5, 0, 192, G.map iV, 0⟩)] ∧ 16 ≤ i ∧ i ≤ 40 ∧ HiI (bR r) (rV V r) M G i) ?_ ?_
     ·
      intro Kc2 hKc2
      refine At.to [(1, _), (2, _), (3, _), (5, _), (6, _)] [(1, _), (2, _), (5, _)] (AllL.cons_ (rfl) (AllL.cons_ (rfl) (AllL.cons_ (rfl) (AllL.cons_ (rfl) (AllL.cons_ (rfl) trivial))))) (AllL.cons_ (rfl) (AllL.cons_ (rfl) (AllL.cons_ (rfl) trivial))) ?_
      exact hKc2 _ _ _ ⟨16, M, List.replicate 40 (0 : Int), rfl, rfl, rfl, by omega, by omega, HiI.init hM hMv hC (by omega)⟩
     ·
      rintro m fr H ⟨i, M, G, rfl, rfl, rfl, hi0, hi, hH⟩ Kc2 hKc2
      refine At.seq ?_
      refine At.seq ?_
      refine At.region ?_
      refine At.p (some 44) (P_move rfl rfl) ?_
      refine At.p (some 45) (P_cmp rfl rfl rfl rfl rfl rfl) ?_
      refine At.nil ?_
      refine At.next ?_
      refine At.cond rfl (fun h45 => ?_) (fun h45 => ?_)
      · -- cond 45 t
       have hlt : i < 40 := by simp at h45; omega
       have a0 := hH.nn i
       have a1 := hH.le2 k1 hlt
       have ml := hH.len
       have gl := hH.glen
       refine At.skip ?_
       refine At.next ?_
       refine At.seq ?_
       refine At.block ?_
       refine At.seq ?_
       refine At.region ?_
       refine At.p (some 48) (P_move rfl rfl) ?_
       refine At.p (some 49) (P_indexAddr_arr1 rfl Try.underlying192 sz3 rfl rfl rfl (by omega)) ?_
       refine At.q (some 50) (Q_loadM (k := 1) (0 : Int) rfl rfl Try.underlying3 rfl rfl WD) ?_
       refine At.p (some 7) (P_assign rfl rfl) ?_
       refine At.nil ?_
       refine At.next ?_
       refine At.seq ?_
       refine At.seq ?_
       refine At.region ?_
       refine At.p (some 51) (P_move rfl rfl) ?_
       refine At.p (some 52) (P_cmp rfl rfl rfl rfl rfl rfl) ?_
       refine At.nil ?_
       refine At.next ?_
       refine At.cond rfl (fun h52 => ?_) (fun h52 => ?_)
       · -- cond 52 t
        have hi16 : i = 16 := by simp at h52; omega
        refine At.seq ?_
        refine At.region ?_
        refine At.p (some 53) (P_move rfl rfl) ?_
        refine At.p (some 54) (P_quo_i rfl rfl rfl (by omega) (by omega) (by first | decide | omega)) ?_
        refine At.p (some 55) (P_indexAddr_arr1 (j := 0) rfl Try.underlying192 sz3 rfl rfl rfl (by decide)) ?_
        refine At.s (S_storeM none (f := iV) (k := 5) rfl rfl rfl sz3 rfl rfl rfl WD ?_)
        refine At.nil ?_
        refine At.next ?_
        refine At.seq ?_
        refine At.region ?_
        refine At.p (some 56) (P_move rfl rfl) ?_
        refine At.p (some 57) (P_rem_i rfl rfl rfl (by omega) (by first | decide | omega)) ?_
        refine At.p (some 58) (P_indexAddr_arr1 (j := 16) rfl Try.underlying192 sz3 rfl rfl rfl (by decide)) ?_
        refine At.s (S_storeM none (f := iV) (k := 1) rfl rfl rfl sz3 rfl rfl rfl WD ?_)
        refine At.nil ?_
        refine At.next ?_
        refine At.exit ?_
        refine At.thn_e ?_
        refine At.inb_hit ?_
        refine At.next ?_
        refine At.region ?_
        refine At.p (some 46) (P_move rfl rfl) ?_
        refine At.p (some 47) (P_add_i rfl rfl rfl (by omega)) ?_
        refine At.p (some 6) (P_assign rfl rfl) ?_
        refine At.nil ?_
        refine At.next ?_
        refine At.to [(1, _), (2, _), (3, _), (5, _), (6, _)] [(1, _), (2, _), (5, _)] (AllL.cons_ (rfl) (AllL.cons_ (rfl) (AllL.cons_ (rfl) (AllL.cons_ (rfl) (AllL.cons_ (rfl) trivial))))) (AllL.cons_ (rfl) (AllL.cons_ (rfl) (AllL.cons_ (rfl) trivial))) ?_
        exact hKc2 _ _ _ (by omega) ⟨i + 1, _, _, rfl, rfl, rfl, by omega, by omega, by first | exact hH.step0' (by omega) hi16 | exact hH.step (by omega) hi17 hlt⟩
       · -- cond 52 f
        have hi17 : 16 < i := by simp at h52; omega
        have g0 := hH.gz (i - 16) (by omega)
        have g1 := hH.gat (i - 17) (by omega) hlt
        have g2 := hH.gnn (i - 17)
        have eg : (G.set (i - 16) (G.getD (i - 16) 0 + M.getD i 0 / 4)).getD (i - 17) 0 = G.getD (i - 17) 0 := by rw [getD_set, if_neg (by omega)]
        refine At.skip ?_
        refine At.next ?_
        refine At.seq ?_
        refine At.region ?_
        refine At.p (some 59) (P_move rfl rfl) ?_
        refine At.p (some 60) (P_sub_i rfl rfl rfl (by omega)) ?_
        refine At.p (some 61) (P_move rfl rfl) ?_
        refine At.p (some 62) (P_sub_i rfl rfl rfl (by omega)) ?_
        refine At.p (some 63) (P_indexAddr_arr1 (j := i - 16) rfl Try.underlying192 sz3 rfl rfl (by omega) (by omega)) ?_
        refine At.q (some 64) (Q_loadM (k := 5) (0 : Int) rfl rfl Try.underlying3 rfl rfl WD) ?_
        refine At.p (some 65) (P_move rfl rfl) ?_
        refine At.p (some 66) (P_quo_i rfl rfl rfl (by omega) (by omega) (by first | decide | omega)) ?_
        refine At.p (some 67) (P_add_i rfl rfl rfl (by omega)) ?_
        refine At.p (some 68) (P_indexAddr_arr1 (j := i - 16) rfl Try.underlying192 sz3 rfl rfl (by omega) (by omega)) ?_
        refine At.s (S_storeM none (f := iV) (k := 5) rfl rfl rfl sz3 rfl rfl rfl WD ?_)
        refine At.nil ?_
        refine At.next ?_
        refine At.seq ?_
        refine At.region ?_
        refine At.p (some 69) (P_move rfl rfl) ?_
        refine At.p (some 70) (P_sub_i rfl rfl rfl (by omega)) ?_
        refine At.p (some 71) (P_move rfl rfl) ?_
        refine At.p (some 72) (P_sub_i rfl rfl rfl (by omega)) ?_
        refine At.p (some 73) (P_indexAddr_arr1 (j := i - 17) rfl Try.underlying192 sz3 rfl rfl (by omega) (by omega)) ?_
        refine At.q (some 74) (Q_loadM (k := 5) (0 : Int) rfl rfl Try.underlying3 rfl rfl WD) ?_
        refine At.p (some 75) (P_move rfl rfl) ?_
        refine At.p (some 76) (P_rem_i rfl rfl rfl (by omega) (by first | decide | omega)) ?_
        refine At.p (some 77) (P_mul_i rfl rfl rfl (by omega)) ?_
        refine At.p (some 78) (P_add_i rfl rfl rfl (by omega)) ?_
        refine At.p (some 79) (P_indexAddr_arr1 (j := i - 17) rfl Try.underlying192 sz3 rfl rfl (by omega) (by omega)) ?_
        refine At.s (S_storeM none (f := iV) (k := 5) rfl rfl rfl sz3 rfl rfl rfl WD ?_)
        refine At.nil ?_
        refine At.next ?_
        refine At.region ?_
        refine At.p (some 80) (P_move rfl rfl) ?_
        refine At.p (some 81) (P_indexAddr_arr1 rfl Try.underlying192 sz3 rfl rfl rfl (by omega)) ?_
        refine At.s (S_storeM none (f := iV) (k := 1) (u := (0 : Int)) rfl rfl rfl sz3 rfl rfl rfl WD ?_)
        refine At.nil ?_
        refine At.inb_n ?_
        refine At.next ?_
        refine At.region ?_
        refine At.p (some 46) (P_move rfl rfl) ?_
        refine At.p (some 47) (P_add_i rfl rfl rfl (by omega)) ?_
        refine At.p (some 6) (P_assign rfl rfl) ?_
        refine At.nil ?_
        refine At.next ?_
        refine At.to [(1, _), (2, _), (3, _), (5, _), (6, _)] [(1, _), (2, _), (5, _)] (AllL.cons_ (rfl) (AllL.cons_ (rfl) (AllL.cons_ (rfl) (AllL.cons_ (rfl) (AllL.cons_ (rfl) trivial))))) (AllL.cons_ (rfl) (AllL.cons_ (rfl) (AllL.cons_ (rfl) trivial))) ?_
        exact hKc2 _ _ _ (by omega) ⟨i + 1, _, _, rfl, rfl, rfl, by omega, by omega, by first | exact hH.step0' (by omega) hi16 | exact hH.step (by omega) hi17 hlt⟩
      · -- cond 45 f
       obtain rfl : i = 40 := by simp at h45; omega
       refine At.exit ?_
       refine At.thn_e ?_
       refine At.thn_e ?_
       refine At.inb_hit ?_
       refine At.next ?_
       refine At.seq ?_
       refine At.region ?_
       refine At.p (some 8) (P_assign rfl rfl) ?_
       refine At.nil ?_
       refine At.next ?_
       refine At.block ?_
       refine At.loopx (I := fun m fr H => ∃ (i : Nat) (N : List Int), m = 40 - i ∧ fr = frOf [(1, ptr b1 0), (2, ptr b2 0), (3, iV (r : Int)), (5, ptr b5 0), (8, iV (i : Int))] ∧ H = hOf [(1, ⟨true, b1, 0, 192, N.map iV, 0⟩), (2, ⟨true, b2, 0, 191, (List.replicate 17 (0 : Int)).map iV, 0⟩), (5, ⟨true, b5, 0, 192, G.map iV, 0⟩)] ∧ i ≤ 40 ∧ AdI (bR (r + 1)) M G N i) ?_ ?_
       ·
        intro Kc3 hKc3
        refine At.to [(1, _), (2, _), (3, _), (5, _), (8, _)] [(1, _), (2, _), (5, _)] (AllL.cons_ (rfl) (AllL.cons_ (rfl) (AllL.cons_ (rfl) (AllL.cons_ (rfl) (AllL.cons_ (rfl) trivial))))) (AllL.cons_ (rfl) (AllL.cons_ (rfl) (AllL.cons_ (rfl) trivial))) ?_
        exact hKc3 _ _ _ ⟨0, M, rfl, rfl, rfl, by omega, hH.ad (by omega)⟩
       ·
        rintro m fr H ⟨i, N, rfl, rfl, rfl, hi, hN⟩ Kc3 hKc3
        refine At.seq ?_
        refine At.seq ?_
        refine At.region ?_
        refine At.p (some 82) (P_move rfl rfl) ?_
        refine At.p (some 83) (P_cmp rfl rfl rfl rfl rfl rfl) ?_
        refine At.nil ?_
        refine At.next ?_
        refine At.cond rfl (fun h83 => ?_) (fun h83 => ?_)
        · -- cond 83 t
         have hlt : i < 40 := by simp at h83; omega
         have a0 := hH.nn i
         have a1 := hH.small i hlt
         have g1 := hH.gnn i
         have g2 := hH.gle i
         have n0 := hN.same i (by omega)
         have ml := hN.len
         have gl := hH.glen
         refine At.skip ?_
         refine At.next ?_
         refine At.seq ?_
         refine At.block ?_
         refine At.draws 9 [] [.q false [0, 1, 2, 3, 4, 5, 6, 7, 8]] (by kernel_rfl) (by kernel_rfl) ?_
         refine At.wp (some 86) (P_move rfl rfl) ?_
         refine At.wp (some 87) (P_move rfl rfl) ?_
         refine At.wp (some 88) (P_indexAddr_arr1 rfl Try.underlying192 sz3 rfl rfl rfl (by omega)) ?_
         refine At.wq (some 89) (Q_loadM (k := 1) (0 : Int) rfl rfl Try.underlying3 rfl rfl WD) ?_
         refine At.wp (some 90) (P_move rfl rfl) ?_
         refine At.wp (some 91) (P_indexAddr_arr1 rfl Try.underlying192 sz3 rfl rfl rfl (by omega)) ?_
         refine At.wq (some 92) (Q_loadM (k := 5) (0 : Int) rfl rfl Try.underlying3 rfl rfl WD) ?_
         refine At.wp (some 93) (P_mul_i rfl rfl rfl (by omega)) ?_
         refine At.wp (some 94) (P_add_i rfl rfl rfl (by omega)) ?_
         refine At.wqn ?_
         refine At.wt rfl ?_
         refine At.p (some 95) (P_indexAddr_arr1 rfl Try.underlying192 sz3 rfl rfl rfl (by omega)) ?_
         refine At.s (S_storeM none (f := iV) (k := 1) rfl rfl rfl sz3 rfl rfl rfl WD ?_)
         refine At.nil ?_
         refine At.inb_n ?_
         refine At.next ?_
         refine At.region ?_
         refine At.p (some 84) (P_move rfl rfl) ?_
         refine At.p (some 85) (P_add_i rfl rfl rfl (by omega)) ?_
         refine At.p (some 8) (P_assign rfl rfl) ?_
         refine At.nil ?_
         refine At.next ?_
         refine At.to [(1, _), (2, _), (3, _), (5, _), (8, _)] [(1, _), (2, _), (5, _)] (AllL.cons_ (rfl) (AllL.cons_ (rfl) (AllL.cons_ (rfl) (AllL.cons_ (rfl) (AllL.cons_ (rfl) trivial))))) (AllL.cons_ (rfl) (AllL.cons_ (rfl) (AllL.cons_ (rfl) trivial))) ?_
         exact hKc3 _ _ _ (by omega) ⟨i + 1, _, rfl, rfl, rfl, by omega, hN.step hlt hH.glen (hH.gnn i) (by omega)⟩
        · -- cond 83 f
         obtain rfl : i = 40 := by simp at h83; omega
         refine At.exit ?_
         refine At.thn_e ?_
         refine At.thn_e ?_
         refine At.inb_hit ?_
         refine At.inb_n ?_
         refine At.next ?_
         refine At.region ?_
         refine At.p (some 20) (P_move rfl rfl) ?_
         refine At.p (some 21) (P_add_i rfl rfl rfl (by omega)) ?_
         refine At.p (some 3) (P_assign rfl rfl) ?_
         refine At.nil ?_
         refine At.next ?_
         refine At.to [(1, _), (2, _), (3, _)] [(1, _), (2, _)] (AllL.cons_ (rfl) (AllL.cons_ (rfl) (AllL.cons_ (rfl) trivial))) (AllL.cons_ (rfl) (AllL.cons_ (rfl) trivial)) ?_
         exact hKc0 _ _ _ (by omega) ⟨r + 1, N, rfl, rfl, rfl, by omega, hN.len, hN.le, hN.fin hH⟩
  · -- cond 19 f
   obtain rfl : r = 4 := by simp at h19; omega
   obtain ⟨k1, k2⟩ := bR_le hr
   refine At.exit ?_
   refine At.thn_e ?_
   refine At.thn_e ?_
   refine At.inb_hit ?_
   refine At.next ?_
   refine At.seq ?_
   refine At.seq ?_
   refine At.region ?_
   refine At.p (some 9) (P_assign rfl rfl) ?_
   refine At.nil ?_
   refine At.next ?_
   refine At.block ?_
   refine At.loopx (I := fun m fr H => ∃ (i : Nat) (M : List Int), m = 39 - i ∧ fr = frOf [(1, ptr b1 0), (2, ptr b2 0), (9, iV (i : Int))] ∧ H = hOf [(1, ⟨true, b1, 0, 192, M.map iV, 0⟩), (2, ⟨true, b2, 0, 191, (List.replicate 17 (0 : Int)).map iV, 0⟩)] ∧ i ≤ 39 ∧ M.length = 40 ∧ valI M = rV V 4 ∧ CarI (bR 4) M i) ?_ ?_
   ·
    intro Kc4 hKc4
    refine At.to [(1, _), (2, _), (9, _)] [(1, _), (2, _)] (AllL.cons_ (rfl) (AllL.cons_ (rfl) (AllL.cons_ (rfl) trivial))) (AllL.cons_ (rfl) (AllL.cons_ (rfl) trivial)) ?_
    exact hKc4 _ _ _ ⟨0, L, rfl, rfl, rfl, by omega, hL, hv, CarI.init hb (by omega)⟩
   ·
    rintro m fr H ⟨i, M, rfl, rfl, rfl, hi, hM, hMv, hC⟩ Kc4 hKc4
    refine At.seq ?_
    refine At.seq ?_
    refine At.region ?_
    refine At.p (some 96) (P_move rfl rfl) ?_
    refine At.p (some 97) (P_cmp rfl rfl rfl rfl rfl rfl) ?_
    refine At.nil ?_
    refine At.next ?_
    refine At.cond rfl (fun h97 => ?_) (fun h97 => ?_)
    · -- cond 97 t
     have hlt : i < 39 := by simp at h97; omega
     have c0 := hC.1 i
     have c1 := hC.1 (i + 1)
     have c2 := hC.2.2.1
     have c3 := hC.2.2.2 (i + 1) (by omega)
     have eg : (M.set (i + 1) (M.getD (i + 1) 0 + M.getD i 0 / 256)).getD i 0 = M.getD i 0 := by rw [getD_set, if_neg (by omega)]
     refine At.skip ?_
     refine At.next ?_
     refine At.seq ?_
     refine At.block ?_
     refine At.seq ?_
     refine At.draws 11 [] [.q false [0, 1, 2, 3, 4, 5, 6, 7, 8, 9, 10]] (by kernel_rfl) (by kernel_rfl) ?_
     refine At.wp (some 100) (P_move rfl rfl) ?_
     refine At.wp (some 101) (P_add_i rfl rfl rfl (by omega)) ?_
     refine At.wp (some 102) (P_move rfl rfl) ?_
     refine At.wp (some 103) (P_add_i rfl rfl rfl (by omega)) ?_
     refine At.wp (some 104) (P_indexAddr_arr1 (j := i + 1) rfl Try.underlying192 sz3 rfl rfl (by omega) (by omega)) ?_
     refine At.wq (some 105) (Q_loadM (k := 1) (0 : Int) rfl rfl Try.underlying3 rfl rfl WD) ?_
     refine At.wp (some 106) (P_move rfl rfl) ?_
     refine At.wp (some 107) (P_indexAddr_arr1 rfl Try.underlying192 sz3 rfl rfl rfl (by omega)) ?_
     refine At.wq (some 108) (Q_loadM (k := 1) (0 : Int) rfl rfl Try.underlying3 rfl rfl WD) ?_
     refine At.wp (some 109) (P_quo_i rfl rfl rfl (by omega) (by omega) (by first | decide | omega)) ?_
     refine At.wp (some 110) (P_add_i rfl rfl rfl (by omega)) ?_
     refine At.wqn ?_
     refine At.wt rfl ?_
     refine At.p (some 111) (P_indexAddr_arr1 (j := i + 1) rfl Try.underlying192 sz3 rfl rfl (by omega) (by omega)) ?_
     refine At.s (S_storeM none (f := iV) (k := 1) rfl rfl rfl sz3 rfl rfl rfl WD ?_)
     refine At.nil ?_
     refine At.next ?_
     refine At.region ?_
     refine At.p (some 112) (P_move rfl rfl) ?_
     refine At.p (some 113) (P_move rfl rfl) ?_
     refine At.p (some 114) (P_indexAddr_arr1 rfl Try.underlying192 sz3 rfl rfl rfl (by omega)) ?_
     refine At.q (some 115) (Q_loadM (k := 1) (0 : Int) rfl rfl Try.underlying3 rfl rfl WD) ?_
     refine At.p (some 116) (P_rem_i rfl rfl rfl (by omega) (by first | decide | omega)) ?_
     refine At.p (some 117) (P_indexAddr_arr1 rfl Try.underlying192 sz3 rfl rfl rfl (by omega)) ?_
     refine At.s (S_storeM none (f := iV) (k := 1) rfl rfl rfl sz3 rfl rfl rfl WD ?_)
     refine At.nil ?_
     refine At.inb_n ?_
     refine At.next ?_
     refine At.region ?_
     refine At.p (some 98) (P_move rfl rfl) ?_
     refine At.p (some 99) (P_add_i rfl rfl rfl (by omega)) ?_
     refine At.p (some 9) (P_assign rfl rfl) ?_
     refine At.nil ?_
     refine At.next ?_
     refine At.to [(1, _), (2, _), (9, _)] [(1, ⟨true, b1, 0, 192, (carryI M i).map iV, 0⟩), (2, _)] (AllL.cons_ (rfl) (AllL.cons_ (rfl) (AllL.cons_ (rfl) trivial))) (AllL.cons_ (congrArg (fun z => some (⟨true, b1, 0, 192, List.map iV z, 0⟩ : Row)) (by simp only [carryI, eg])) (AllL.cons_ (rfl) trivial)) ?_
     exact hKc4 _ _ _ (by omega) ⟨i + 1, carryI M i, rfl, rfl, rfl, by omega, by rw [carryI_len]; exact hM, by rw [carryI_val (by omega)]; exact hMv, hC.step (by omega) (by omega)⟩
    · -- cond 97 f
     obtain rfl : i = 39 := by simp at h97; omega
     refine At.exit ?_
     refine At.thn_e ?_
     refine At.thn_e ?_
     refine At.inb_hit ?_
     refine At.next ?_
     refine At.seq ?_
     refine At.region ?_
     refine At.s (S_alloc (some 10) 10 (zs := (pOut M 0).map iV) rfl ze191 rfl (fun b10 => ?_))
     refine At.nil ?_
     refine At.next ?_
     refine At.seq ?_
     refine At.seq ?_
     refine At.region ?_
     refine At.p (some 11) (P_assign rfl rfl) ?_
     refine At.nil ?_
     refine At.next ?_
     refine At.block ?_
     refine At.loopx (I := fun m fr H => ∃ i, m = 17 - i ∧ fr = frOf [(1, ptr b1 0), (2, ptr b2 0), (10, ptr b10 0), (11, iV (i : Int))] ∧ H = hOf [(1, ⟨true, b1, 0, 192, M.map iV, 0⟩), (2, ⟨true, b2, 0, 191, (List.replicate 17 (0 : Int)).map iV, 0⟩), (10, ⟨true, b10, 0, 191, (pOut M i).map iV, 0⟩)] ∧ i ≤ 17) ?_ ?_
     ·
      intro Kc5 hKc5
      refine At.to [(1, _), (2, _), (10, _), (11, _)] [(1, _), (2, _), (10, ⟨true, b10, 0, 191, (pOut M 0).map iV, 0⟩)] (AllL.cons_ (rfl) (AllL.cons_ (rfl) (AllL.cons_ (rfl) (AllL.cons_ (rfl) trivial)))) (AllL.cons_ (rfl) (AllL.cons_ (rfl) (AllL.cons_ (rfl) trivial))) ?_
      exact hKc5 _ _ _ ⟨0, rfl, rfl, rfl, by omega⟩
     ·
      rintro m fr H ⟨i, rfl, rfl, rfl, hi⟩ Kc5 hKc5
      refine At.seq ?_
      refine At.seq ?_
      refine At.region ?_
      refine At.p (some 118) (P_move rfl rfl) ?_
      refine At.p (some 119) (P_cmp rfl rfl rfl rfl rfl rfl) ?_
      refine At.nil ?_
      refine At.next ?_
      refine At.cond rfl (fun h119 => ?_) (fun h119 => ?_)
      · -- cond 119 t
       have hlt : i < 17 := by simp at h119; omega
       have ol := pOut_len M hi
       refine At.skip ?_
       refine At.next ?_
       refine At.seq ?_
       refine At.block ?_
       refine At.region ?_
       refine At.p (some 122) (P_move rfl rfl) ?_
       refine At.p (some 123) (P_move rfl rfl) ?_
       refine At.p (some 124) (P_indexAddr_arr1 rfl Try.underlying192 sz3 rfl rfl rfl (by omega)) ?_
       refine At.q (some 125) (Q_loadM (k := 1) (0 : Int) rfl rfl Try.underlying3 rfl rfl WD) ?_
       refine At.p (some 126) (P_indexAddr_arr1 rfl Try.underlying191 sz3 rfl rfl rfl (by omega)) ?_
       refine At.s (S_storeM none (f := iV) (k := 10) rfl rfl rfl sz3 rfl rfl rfl WD ?_)
       refine At.nil ?_
       refine At.inb_n ?_
       refine At.next ?_
       refine At.region ?_
       refine At.p (some 120) (P_move rfl rfl) ?_
       refine At.p (some 121) (P_add_i rfl rfl rfl (by omega)) ?_
       refine At.p (some 11) (P_assign rfl rfl) ?_
       refine At.nil ?_
       refine At.next ?_
       refine At.to [(1, _), (2, _), (10, _), (11, _)] [(1, _), (2, _), (10, ⟨true, b10, 0, 191, (pOut M (i + 1)).map iV, 0⟩)] (AllL.cons_ (rfl) (AllL.cons_ (rfl) (AllL.cons_ (rfl) (AllL.cons_ (rfl) trivial)))) (AllL.cons_ (rfl) (AllL.cons_ (rfl) (AllL.cons_ (congrArg (fun z => some (⟨true, b10, 0, 191, List.map iV z, 0⟩ : Row)) (pOut_set M hlt)) trivial))) ?_
       exact hKc5 _ _ _ (by omega) ⟨i + 1, rfl, rfl, rfl, by omega⟩
      · -- cond 119 f
       obtain rfl : i = 17 := by simp at h119; omega
       have hO := out_of hM hMv hC hv4.2
       generalize pOut M 17 = O at *
       refine At.exit ?_
       refine At.thn_e ?_
       refine At.thn_e ?_
       refine At.inb_hit ?_
       refine At.next ?_
       refine At.seq ?_
       refine At.region ?_
       refine At.s (S_callV (some 127) [] [] (vs := []) rfl en148 rfl V0 (by simp) (r_less) (by rintro _ _ ⟨rfl, rfl⟩; rfl) ?_)
       rintro _ _ ⟨rfl, rfl⟩
       refine At.s (S_alloc (some 12) 12 (zs := (List.replicate 17 (0 : Int)).map iV) rfl ze191 rfl (fun b12 => ?_))
       refine At.s (S_storeA none (k := 12) (vs := _) rfl rfl rfl (by first | (rw [sz191]; simp <;> omega) | exact sz191) rfl WA WB rfl WC ?_)
       refine At.nil ?_
       refine At.next ?_
       refine At.seq ?_
       refine At.region ?_
       refine At.p (some 13) (P_assign rfl rfl) ?_
       refine At.nil ?_
       refine At.next ?_
       refine At.seq ?_
       refine At.seq ?_
       refine At.region ?_
       refine At.p (some 14) (P_assign rfl rfl) ?_
       refine At.nil ?_
       refine At.next ?_
       refine At.block ?_
       refine At.loopx (I := fun m fr H => ∃ (i : Nat) (ab : Bool), m = 17 - i ∧ fr = frOf [(2, ptr b2 0), (10, ptr b10 0), (12, ptr b12 0), (13, .bool ab), (14, iV (i : Int))] ∧ H = hOf [(2, ⟨true, b2, 0, 191, (List.replicate 17 (0 : Int)).map iV, 0⟩), (10, ⟨true, b10, 0, 191, O.map iV, 0⟩), (12, ⟨true, b12, 0, 191, lessL.map iV, 0⟩)] ∧ i ≤ 17 ∧ (ab = true ↔ valI (lessL.take i) ≤ valI (O.take i))) ?_ ?_
       ·
        intro Kc6 hKc6
        refine At.to [(2, _), (10, _), (12, _), (13, _), (14, _)] [(2, _), (10, _), (12, _)] (AllL.cons_ (rfl) (AllL.cons_ (rfl) (AllL.cons_ (rfl) (AllL.cons_ (rfl) (AllL.cons_ (rfl) trivial))))) (AllL.cons_ (rfl) (AllL.cons_ (rfl) (AllL.cons_ (rfl) trivial))) ?_
        exact hKc6 _ _ _ ⟨0, true, rfl, rfl, rfl, by omega, by simp [valI]⟩
       ·
        rintro m fr H ⟨i, ab, rfl, rfl, rfl, hi, hab⟩ Kc6 hKc6
        refine At.seq ?_
        refine At.seq ?_
        refine At.region ?_
        refine At.p (some 128) (P_move rfl rfl) ?_
        refine At.p (some 129) (P_cmp rfl rfl rfl rfl rfl rfl) ?_
        refine At.nil ?_
        refine At.next ?_
        refine At.cond rfl (fun h129 => ?_) (fun h129 => ?_)
        · -- cond 129 t
         have hlt : i < 17 := by simp at h129; omega
         have hOl := hO.1
         have hLl : lessL.length = 17 := rfl
         have habs := above_step (a := O) (b := lessL) (i := i) (by omega) (by omega) hO.2.1 less_dig
         refine At.skip ?_
         refine At.next ?_
         refine At.seq ?_
         refine At.block ?_
         refine At.seq ?_
         refine At.draws 6 [] [.q false [0, 1, 2, 3, 4, 5]] (by kernel_rfl) (by kernel_rfl) ?_
         refine At.wp (some 132) (P_move rfl rfl) ?_
         refine At.wp (some 133) (P_indexAddr_arr1 rfl Try.underlying191 sz3 rfl rfl rfl (by omega)) ?_
         refine At.wq (some 134) (Q_loadM (k := 10) (0 : Int) rfl rfl Try.underlying3 rfl rfl WD) ?_
         refine At.wp (some 135) (P_move rfl rfl) ?_
         refine At.wp (some 136) (P_indexAddr_arr1 rfl Try.underlying191 sz3 rfl rfl rfl (by omega)) ?_
         refine At.wq (some 137) (Q_loadM (k := 12) (0 : Int) rfl rfl Try.underlying3 rfl rfl WD) ?_
         refine At.wqn ?_
         refine At.wt rfl ?_
         refine At.p (some 138) (P_cmp rfl rfl rfl rfl rfl rfl) ?_
         refine At.nil ?_
         refine At.next ?_
         refine At.cond rfl (fun h138 => ?_) (fun h138 => ?_)
         · -- cond 138 t
          have hne : O.getD i 0 ≠ lessL.getD i 0 := by simpa using h138
          refine At.draws 6 [] [.q false [0, 1, 2, 3, 4, 5]] (by kernel_rfl) (by kernel_rfl) ?_
          refine At.wp (some 139) (P_move rfl rfl) ?_
          refine At.wp (some 140) (P_indexAddr_arr1 rfl Try.underlying191 sz3 rfl rfl rfl (by omega)) ?_
          refine At.wq (some 141) (Q_loadM (k := 10) (0 : Int) rfl rfl Try.underlying3 rfl rfl WD) ?_
          refine At.wp (some 142) (P_move rfl rfl) ?_
          refine At.wp (some 143) (P_indexAddr_arr1 rfl Try.underlying191 sz3 rfl rfl rfl (by omega)) ?_
          refine At.wq (some 144) (Q_loadM (k := 12) (0 : Int) rfl rfl Try.underlying3 rfl rfl WD) ?_
          refine At.wqn ?_
          refine At.wt rfl ?_
          refine At.p (some 145) (P_cmp rfl rfl rfl rfl rfl rfl) ?_
          refine At.p (some 13) (P_assign rfl rfl) ?_
          refine At.nil ?_
          refine At.inb_n ?_
          refine At.next ?_
          refine At.region ?_
          refine At.p (some 130) (P_move rfl rfl) ?_
          refine At.p (some 131) (P_add_i rfl rfl rfl (by omega)) ?_
          refine At.p (some 14) (P_assign rfl rfl) ?_
          refine At.nil ?_
          refine At.next ?_
          refine At.to [(2, _), (10, _), (12, _), (13, _), (14, _)] [(2, _), (10, _), (12, _)] (AllL.cons_ (rfl) (AllL.cons_ (rfl) (AllL.cons_ (rfl) (AllL.cons_ (rfl) (AllL.cons_ (rfl) trivial))))) (AllL.cons_ (rfl) (AllL.cons_ (rfl) (AllL.cons_ (rfl) trivial))) ?_
          exact hKc6 _ _ _ (by omega) ⟨i + 1, _, rfl, rfl, rfl, by omega, by first | (rw [(habs.1 hne)]; simp) | (rw [habs.2 heq]; exact hab)⟩
         · -- cond 138 f
          have heq : O.getD i 0 = lessL.getD i 0 := by simpa using h138
          refine At.skip ?_
          refine At.inb_n ?_
          refine At.next ?_
          refine At.region ?_
          refine At.p (some 130) (P_move rfl rfl) ?_
          refine At.p (some 131) (P_add_i rfl rfl rfl (by omega)) ?_
          refine At.p (some 14) (P_assign rfl rfl) ?_
          refine At.nil ?_
          refine At.next ?_
          refine At.to [(2, _), (10, _), (12, _), (13, _), (14, _)] [(2, _), (10, _), (12, _)] (AllL.cons_ (rfl) (AllL.cons_ (rfl) (AllL.cons_ (rfl) (AllL.cons_ (rfl) (AllL.cons_ (rfl) trivial))))) (AllL.cons_ (rfl) (AllL.cons_ (rfl) (AllL.cons_ (rfl) trivial))) ?_
          exact hKc6 _ _ _ (by omega) ⟨i + 1, _, rfl, rfl, rfl, by omega, by first | (rw [(habs.1 hne)]; simp) | (rw [habs.2 heq]; exact hab)⟩
        · -- cond 129 f
         obtain rfl : i = 17 := by simp at h129; omega
         have hOl := hO.1
         rw [List.take_of_length_le (by decide), List.take_of_length_le (by omega), less_val, hO.2.2] at hab
         refine At.exit ?_
         refine At.thn_e ?_
         refine At.thn_e ?_
         refine At.inb_hit ?_
         refine At.next ?_
         refine At.seq ?_
         refine At.seq ?_
         refine At.region ?_
         refine At.p (some 146) (P_move rfl rfl) ?_
         refine At.nil ?_
         refine At.next ?_
         refine At.cond rfl (fun h146 => ?_) (fun h146 => ?_)
         · -- cond 146 t
          have hge := hab.1 (by simpa using h146)
          refine At.seq ?_
          refine At.region ?_
          refine At.p (some 15) (P_assign rfl rfl) ?_
          refine At.nil ?_
          refine At.next ?_
          refine At.seq ?_
          refine At.region ?_
          refine At.p (some 16) (P_assign rfl rfl) ?_
          refine At.nil ?_
          refine At.next ?_
          refine At.block ?_
          refine At.loopx (I := fun m fr H => ∃ (i : Nat) (w : Int) (N : List Int), m = 17 - i ∧ fr = frOf [(2, ptr b2 0), (10, ptr b10 0), (12, ptr b12 0), (15, iV w), (16, iV (i : Int))] ∧ H = hOf [(2, ⟨true, b2, 0, 191, (List.replicate 17 (0 : Int)).map iV, 0⟩), (10, ⟨true, b10, 0, 191, N.map iV, 0⟩), (12, ⟨true, b12, 0, 191, lessL.map iV, 0⟩)] ∧ i ≤ 17 ∧ SuI O lessL N i w) ?_ ?_
          ·
           intro Kc7 hKc7
           refine At.to [(2, _), (10, _), (12, _), (15, _), (16, _)] [(2, _), (10, _), (12, _)] (AllL.cons_ (rfl) (AllL.cons_ (rfl) (AllL.cons_ (rfl) (AllL.cons_ (rfl) (AllL.cons_ (rfl) trivial))))) (AllL.cons_ (rfl) (AllL.cons_ (rfl) (AllL.cons_ (rfl) trivial))) ?_
           exact hKc7 _ _ _ ⟨0, 0, O, rfl, rfl, rfl, by omega, ⟨hO.1, .inl rfl, by simp [valI], fun _ _ => rfl, hO.2.1⟩⟩
          ·
           rintro m fr H ⟨i, w, N, rfl, rfl, rfl, hi, hS⟩ Kc7 hKc7
           refine At.seq ?_
           refine At.seq ?_
           refine At.region ?_
           refine At.p (some 147) (P_move rfl rfl) ?_
           refine At.p (some 148) (P_cmp rfl rfl rfl rfl rfl rfl) ?_
           refine At.nil ?_
           refine At.next ?_
           refine At.cond rfl (fun h148 => ?_) (fun h148 => ?_)
           · -- cond 148 t
            have hlt : i < 17 := by simp at h148; omega
            have hNl := hS.len
            have n0 := hS.dig i
            have l0 := less_dig i
            have w0 : 0 ≤ w ∧ w ≤ 1 := by rcases hS.w01 with h | h <;> omega
            have hLl : lessL.length = 17 := rfl
            refine At.skip ?_
            refine At.next ?_
            refine At.seq ?_
            refine At.block ?_
            refine At.seq ?_
            refine At.draws 8 [] [.q false [0, 1, 2, 3, 4, 5, 6, 7]] (by kernel_rfl) (by kernel_rfl) ?_
            refine At.wp (some 151) (P_move rfl rfl) ?_
            refine At.wp (some 152) (P_indexAddr_arr1 rfl Try.underlying191 sz3 rfl rfl rfl (by omega)) ?_
            refine At.wq (some 153) (Q_loadM (k := 10) (0 : Int) rfl rfl Try.underlying3 rfl rfl WD) ?_
            refine At.wp (some 154) (P_move rfl rfl) ?_
            refine At.wp (some 155) (P_indexAddr_arr1 rfl Try.underlying191 sz3 rfl rfl rfl (by omega)) ?_
            refine At.wq (some 156) (Q_loadM (k := 12) (0 : Int) rfl rfl Try.underlying3 rfl rfl WD) ?_
            refine At.wp (some 157) (P_sub_i rfl rfl rfl (by omega)) ?_
            refine At.wp (some 158) (P_move rfl rfl) ?_
            refine At.wqn ?_
            refine At.wt rfl ?_
            refine At.p (some 159) (P_sub_i rfl rfl rfl (by omega)) ?_
            refine At.p (some 17) (P_assign rfl rfl) ?_
            refine At.nil ?_
            refine At.next ?_
            refine At.seq ?_
            refine At.region ?_
            refine At.p (some 15) (P_assign rfl rfl) ?_
            refine At.nil ?_
            refine At.next ?_
            refine At.seq ?_
            refine At.seq ?_
            refine At.region ?_
            refine At.p (some 160) (P_move rfl rfl) ?_
            refine At.p (some 161) (P_cmp rfl rfl rfl rfl rfl rfl) ?_
            refine At.nil ?_
            refine At.next ?_
            refine At.cond rfl (fun h161 => ?_) (fun h161 => ?_)
            · -- cond 161 t
             have hneg : N.getD i 0 - lessL.getD i 0 - w < 0 := by simpa using h161
             refine At.region ?_
             refine At.p (some 162) (P_move rfl rfl) ?_
             refine At.p (some 163) (P_add_i rfl rfl rfl (by omega)) ?_
             refine At.p (some 17) (P_assign rfl rfl) ?_
             refine At.p (some 15) (P_assign rfl rfl) ?_
             refine At.nil ?_
             refine At.next ?_
             refine At.region ?_
             refine At.p (some 164) (P_move rfl rfl) ?_
             refine At.p (some 165) (P_move rfl rfl) ?_
             refine At.p (some 166) (P_indexAddr_arr1 rfl Try.underlying191 sz3 rfl rfl rfl (by omega)) ?_
             refine At.s (S_storeM none (f := iV) (k := 10) rfl rfl rfl sz3 rfl rfl rfl WD ?_)
             refine At.nil ?_
             refine At.inb_n ?_
             refine At.next ?_
             refine At.region ?_
             refine At.p (some 149) (P_move rfl rfl) ?_
             refine At.p (some 150) (P_add_i rfl rfl rfl (by omega)) ?_
             refine At.p (some 16) (P_assign rfl rfl) ?_
             refine At.nil ?_
             refine At.next ?_
             refine At.to [(2, _), (10, _), (12, _), (15, _), (16, _)] [(2, _), (10, _), (12, _)] (AllL.cons_ (rfl) (AllL.cons_ (rfl) (AllL.cons_ (rfl) (AllL.cons_ (rfl) (AllL.cons_ (rfl) trivial))))) (AllL.cons_ (rfl) (AllL.cons_ (rfl) (AllL.cons_ (rfl) trivial))) ?_
             exact hKc7 _ _ _ (by omega) ⟨i + 1, _, _, rfl, rfl, rfl, by omega, by first | exact (hS.step hlt hO.1 rfl less_dig rfl).1 hneg | exact (hS.step hlt hO.1 rfl less_dig rfl).2 hneg⟩
            · -- cond 161 f
             have hneg : ¬ N.getD i 0 - lessL.getD i 0 - w < 0 := by simpa using h161
             refine At.skip ?_
             refine At.next ?_
             refine At.region ?_
             refine At.p (some 164) (P_move rfl rfl) ?_
             refine At.p (some 165) (P_move rfl rfl) ?_
             refine At.p (some 166) (P_indexAddr_arr1 rfl Try.underlying191 sz3 rfl rfl rfl (by omega)) ?_
             refine At.s (S_storeM none (f := iV) (k := 10) rfl rfl rfl sz3 rfl rfl rfl WD ?_)
             refine At.nil ?_
             refine At.inb_n ?_
             refine At.next ?_
             refine At.region ?_
             refine At.p (some 149) (P_move rfl rfl) ?_
             refine At.p (some 150) (P_add_i rfl rfl rfl (by omega)) ?_
             refine At.p (some 16) (P_assign rfl rfl) ?_
             refine At.nil ?_
             refine At.next ?_
             refine At.to [(2, _), (10, _), (12, _), (15, _), (16, _)] [(2, _), (10, _), (12, _)] (AllL.cons_ (rfl) (AllL.cons_ (rfl) (AllL.cons_ (rfl) (AllL.cons_ (rfl) (AllL.cons_ (rfl) trivial))))) (AllL.cons_ (rfl) (AllL.cons_ (rfl) (AllL.cons_ (rfl) trivial))) ?_
             exact hKc7 _ _ _ (by omega) ⟨i + 1, _, _, rfl, rfl, rfl, by omega, by first | exact (hS.step hlt hO.1 rfl less_dig rfl).1 hneg | exact (hS.step hlt hO.1 rfl less_dig rfl).2 hneg⟩
           · -- cond 148 f
            obtain rfl : i = 17 := by simp at h148; omega
            have hN17 := hS.len
            refine At.exit ?_
            refine At.thn_e ?_
            refine At.thn_e ?_
            refine At.inb_hit ?_
            refine At.next ?_
            refine At.seq ?_
            refine At.region ?_
            refine At.q (some 167) (Q_loadA (k := 10) rfl rfl Try.underlying191 rfl sz191 WD rfl) ?_
            refine At.s (S_storeA none (k := 2) (vs := _) rfl rfl rfl (by first | (rw [sz191]; simp <;> omega) | exact sz191) rfl WA WB rfl WC ?_)
            refine At.nil ?_
            refine At.next ?_
            refine At.ret ?_
            have hf := hS.fin hO rfl less_val hge hv4.1 hv4.2 (rV_mod V 4)
            have hN17 := hf.1
            refine At.giveV (.inl rfl) [] (rows' := []) (ResV.cellA (k := 2) rfl rfl Try.underlying191 rfl sz191 (by first | (simp <;> omega) | rfl | (simp [*]; done)) rfl) rfl (by simp) (by simp) ?_
            exact ⟨N, hf, rfl, rfl⟩
         · -- cond 146 f
          have hge : ¬ P130 ≤ rV V 4 := fun hh => by have := hab.2 hh; simp [this] at h146
          refine At.skip ?_
          refine At.next ?_
          refine At.seq ?_
          refine At.region ?_
          refine At.q (some 167) (Q_loadA (k := 10) rfl rfl Try.underlying191 rfl sz191 WD rfl) ?_
          refine At.s (S_storeA none (k := 2) (vs := _) rfl rfl rfl (by first | (rw [sz191]; simp <;> omega) | exact sz191) rfl WA WB rfl WC ?_)
          refine At.nil ?_
          refine At.next ?_
          refine At.ret ?_
          have hf : OutI (V % P130) O := ⟨hO.1, hO.2.1, hO.2.2.trans ((cut_fin hv4.1 hv4.2 (rV_mod V 4)).2 hge)⟩
          have hN17 := hf.1
          refine At.giveV (.inl rfl) [] (rows' := []) (ResV.cellA (k := 2) rfl rfl Try.underlying191 rfl sz191 (by first | (simp <;> omega) | rfl | (simp [*]; done)) rfl) rfl (by simp) (by simp) ?_
          exact ⟨O, hf, rfl, rfl⟩



end Go.Proofs.Ytcjfkmhijfcciaa

