import Derived.Test.YtdingfinclcbgaaJN4
import Derived.Test.YtdingfinclcbgaaG1
namespace Go.Proofs.Ytdingfinclcbgaa
set_option maxRecDepth 20000
set_option linter.unusedVariables false
set_option linter.unusedSimpArgs false
open Go.SE Go.RowKit
theorem c_Chunk (p : Option Addr) (len cap k : Nat) (hk : 0 < k) :
  Con Try.prog 55 [.slice p len cap, iV (k : Int)] [] (fun v rs => ∃ bs bn, v = .func (.func 63) #[] #[ptr bs 0, ptr bn 0] ∧ rs = [⟨true, bs, 0, 27, [.slice p len cap], 0⟩, ⟨true, bn, 0, 3, [iV (k : Int)], 0⟩]) := by
 refine Con.enter Try.func55 Try.ntmps55 (Nat.le_of_ble_eq_true rfl) rfl fun w => ?_
 refine At.seq ?_
 refine At.region ?_
 refine At.s (S_box (some 2) 0 rfl rfl rfl (fun b0 => ?_))
 refine At.s (S_box (some 3) 1 rfl rfl rfl (fun b1 => ?_))
 refine At.p (some 4) (P_assign rfl rfl) ?_
 refine At.nil ?_
 refine At.next ?_
 refine At.seq ?_
 refine At.seq ?_
 refine At.region ?_
 refine At.q (some 5) (Q_loadO (k := 1) rfl rfl Try.underlying3 rfl rfl rfl) ?_
 refine At.p (some 6) (P_cmp rfl rfl rfl rfl rfl rfl) ?_
 refine At.nil ?_
 refine At.next ?_
 refine At.cond rfl (fun h6 => by simp at h6; omega) (fun h6 => ?_)
 refine At.skip ?_
 refine At.next ?_
 refine At.seq ?_
 refine At.region ?_
 refine At.p (some 8) (P_makeFunc (vs := [_, _]) rfl rfl) ?_
 refine At.p (some 4) (P_assign rfl rfl) ?_
 refine At.nil ?_
 refine At.next ?_
 refine At.ret ?_
 refine At.give (.inl rfl) [0, 1] (rows' := [_, _]) (vs := [_]) rfl ⟨rfl, trivial⟩ rfl (by simp) (by simp) ⟨b0, b1, rfl, rfl⟩

theorem it_Chunk (p : Option Addr) (len cap k bs bn : Nat) (hk : 0 < k) (hl : len ≤ cap) (hc : len ≤ 4611686018427387904) (hkc : k ≤ 4611686018427387904) :
  Iter Try.prog 63 [ptr bs 0, ptr bn 0] (chunksV p len k) (C2 bs bn (.slice p len cap) (iV (k : Int))) := by
 refine Iter.enter2 Try.func63 Try.ntmps63 (by decide) rfl fun l J Jx hI W h0 => ?_
 have hX := hI.belowX
 refine At.seq ?_
 refine At.region ?_
 refine At.p (some 4) (P_assign rfl rfl) ?_
 refine At.nil ?_
 refine At.next ?_
 refine At.block ?_
 refine At.to [(0, _), (1, _), (2, _), (4, iV ((0 * k : Nat) : Int))] [(0, _), (1, _)] (AllL.cons_ (rfl) (AllL.cons_ (rfl) (AllL.cons_ (rfl) (AllL.cons_ (by rw [Nat.zero_mul]; rfl) trivial)))) (AllL.cons_ (rfl) (AllL.cons_ (rfl) trivial)) ?_
 refine Iter.loop (xs := chunksV p len k) (J := J) (fun i => frOf [(0, .func (.yield l) #[] #[]), (1, ptr bs 0), (2, ptr bn 0), (4, iV ((i * k : Nat) : Int))]) (fun i hi W hJ K hK => ?_) h0
 rw [chunksV_len] at hi
 refine At.seq ?_
 refine At.seq ?_
 refine At.region ?_
 refine At.p (some 6) (P_move rfl rfl) ?_
 refine At.q (some 7) (Q_loadO (k := 0) rfl rfl Try.underlying27 rfl rfl rfl) ?_
 refine At.p (some 8) (P_len_sl rfl rfl ⟨_, Try.underlying27⟩ rfl) ?_
 refine At.p (some 9) (P_cmp rfl rfl rfl rfl rfl rfl) ?_
 refine At.nil ?_
 refine At.next ?_
 refine At.cond rfl (fun h9 => ?_) (fun h9 => ?_)
 · -- cond 9 t
  have hlt : i * k < len := by simp at h9; omega
  have hlt2 := (chunksV_at (p := p) hk hlt).2
  refine At.skip ?_
  refine At.next ?_
  refine At.seq ?_
  refine At.block ?_
  refine At.seq ?_
  refine At.draws 5 [] [.q false [0, 1, 2, 3, 4]] (by kernel_rfl) (by kernel_rfl) ?_
  refine At.wq (some 13) (Q_loadO (k := 1) rfl rfl Try.underlying3 rfl rfl rfl) ?_
  refine At.wq (some 14) (Q_loadO (k := 0) rfl rfl Try.underlying27 rfl rfl rfl) ?_
  refine At.wp (some 15) (P_move rfl rfl) ?_
  refine At.wp (some 16) (P_slice_sl (l := i * k) rfl Try.underlying27 sz5 rfl ⟨_, _, rfl, by omega⟩ rfl rfl (by omega) (by omega) (by omega)) ?_
  refine At.wp (some 17) (P_len_sl rfl rfl ⟨_, Try.underlying27⟩ rfl) ?_
  refine At.wqn ?_
  refine At.wt rfl ?_
  refine At.p (some 18) (P_min2 rfl rfl rfl rfl) ?_
  refine At.p (some 5) (P_assign rfl rfl) ?_
  refine At.nil ?_
  refine At.next ?_
  refine At.seq ?_
  refine At.regionYk 10 (fun ⟨_, _, h⟩ => by obtain ⟨⟨_, h⟩, _⟩ := h; cases h) ?_
  refine At.p (some 19) (P_move rfl rfl) ?_
  refine At.q (some 20) (Q_loadO (k := 0) rfl rfl Try.underlying27 rfl rfl rfl) ?_
  refine At.p (some 21) (P_move rfl rfl) ?_
  refine At.p (some 22) (P_move rfl rfl) ?_
  refine At.p (some 23) (P_move rfl rfl) ?_
  refine At.p (some 24) (P_add_i rfl rfl rfl (by omega)) ?_
  refine At.p (some 25) (P_move rfl rfl) ?_
  refine At.p (some 26) (P_move rfl rfl) ?_
  refine At.p (some 27) (P_add_i rfl rfl rfl (by omega)) ?_
  refine At.p (some 28) (P_slice_sl (l := i * k) (h := i * k + min k (len - i * k)) (m := i * k + min k (len - i * k)) rfl Try.underlying27 sz5 rfl ⟨_, _, rfl, by omega⟩ ⟨_, _, rfl, by omega⟩ ⟨_, _, rfl, by omega⟩ (by omega) (by omega) (by omega)) ?_
  refine At.nil ?_
  refine At.next ?_
  refine At.yld2 hI hJ (some 29) rfl rfl rfl (chunk_cut hk hlt) (fun B hB => ?_) (fun B hB => ?_)
  ·
   refine At.listI (fun ⟨_, _, h⟩ => by obtain ⟨⟨_, h⟩, _⟩ := h; cases h) ?_
   refine At.p (some 30) (P_not rfl rfl) ?_
   refine At.nil ?_
   refine At.next ?_
   refine At.cond rfl (fun h => absurd (h.symm.trans rfl) (by decide)) (fun _ => ?_)
   refine At.skip ?_
   refine At.inb_n ?_
   refine At.next ?_
   refine At.region ?_
   refine At.p (some 10) (P_move rfl rfl) ?_
   refine At.q (some 11) (Q_loadO (k := 1) rfl rfl Try.underlying3 rfl rfl rfl) ?_
   refine At.p (some 12) (P_add_i rfl rfl rfl (by omega)) ?_
   refine At.p (some 4) (P_assign rfl rfl) ?_
   refine At.nil ?_
   refine At.next ?_
   refine At.to [(0, _), (1, _), (2, _), (4, iV (((i + 1) * k : Nat) : Int))] [(0, _), (1, _)] (AllL.cons_ (rfl) (AllL.cons_ (rfl) (AllL.cons_ (rfl) (AllL.cons_ (by rw [Nat.add_mul, Nat.one_mul]; rfl) trivial)))) (AllL.cons_ (rfl) (AllL.cons_ (rfl) trivial)) ?_
   exact hK (by rw [chunksV_len]; exact hlt2) B hB
  ·
   refine At.listI (fun ⟨_, _, h⟩ => by obtain ⟨⟨_, h⟩, _⟩ := h; cases h) ?_
   refine At.p (some 30) (P_not rfl rfl) ?_
   refine At.nil ?_
   refine At.next ?_
   refine At.cond rfl (fun _ => ?_) (fun h => absurd (h.symm.trans rfl) (by decide))
   refine At.ret ?_
   refine At.inb_r ?_
   refine At.thn_r ?_
   refine At.thn_r ?_
   refine At.inb_r ?_
   refine At.done (rs := []) (vs := []) rfl rfl trivial (fun w hw _ => ⟨⟨_, rfl⟩, Or.inr ?_⟩)
   exact hX _ _ hB hw.below
 · -- cond 9 f
  have hge : len ≤ i * k := by simp at h9; omega
  refine At.exit ?_
  refine At.thn_e ?_
  refine At.thn_e ?_
  refine At.inb_hit ?_
  obtain rfl : i = (chunksV p len k).length := by rw [chunksV_len]; exact Nat.le_antisymm hi (chunksV_end hk hge)
  exact At.itEnd hI hJ rfl

def stI (a b : Int) : Nat → Int
 | 0 => a
 | _ + 1 => b
def stp (a b : List (BitVec 8)) : Nat → List (BitVec 8)
 | 0 => a
 | _ + 1 => b
theorem put_S {S x : List (BitVec 8)} {p : Nat} (h : x.length = 64) : splice (stp S (splice S (p * 64) x) 0) ((p + 0 + 0) * 64) ((x.drop (0 * 64)).take (min 64 (x.length - 0 * 64))) = stp S (splice S (p * 64) x) (0 + 1) := by
 rw [h, show min 64 (64 - 0 * 64) = 64 from rfl, Nat.zero_mul, List.drop_zero, List.take_of_length_le (by omega)]
 rfl

attribute [local irreducible] sumS
set_option maxHeartbeats 2000000 in
theorem c_put {bD bS cD nD rD : Nat} {S : List (BitVec 8)} {wr : Int} {bJ ar : Nat} {gen : BitVec 64} {e : List (BitVec 8)} {Ae : Option Addr} {ne ce be qe : Nat} (hSl : S.length = nD * 64) (hn : nD ≤ 512) (hc : nD ≤ cD) (hw : 0 ≤ wr) (hw2 : wr ≤ 4611686018427380000) (h4 : 4 ≤ nD) (har : ar ≤ 1) (hne : e.length = ne) (hAe : 0 < ne → Ae = some ⟨be, qe, none⟩) (hce : ne ≤ ce) (he1 : 1 ≤ ne) (he2 : ne ≤ 14) :
  Con Try.prog 47 [ptr bJ 0, .slice Ae ne ce, iV (ar : Int)] [dH true bD bS cD nD wr, rowS true bS S rD, ⟨true, bJ, 0, 82, [ptr bD 0, u64V gen, iV (ar : Int), .slice none 0 0, iV 0, .bool false], 0⟩, pRow be qe e] (fun v rs => ∃ A' b' c' A2 b2 c2, (0 < c' → A' = some ⟨b', 0, none⟩) ∧ 1 ≤ c' ∧ (BE.mk A2 b2 c2 e).ok ∧ v = iV 0 ∧ rs = [dH true bD bS cD nD (wr + 1), rowS true bS (splice S (fstS nD ar * 64) (secB gen 0 e)) rD, ⟨true, bJ, 0, 82, [ptr bD 0, u64V gen, iV (ar : Int), .slice A' 1 c', iV 1, .bool false], 0⟩, ⟨true, b', 0, 27, [BE.mk A2 b2 c2 e].map BE.v, c' - 1⟩, (BE.mk A2 b2 c2 e).row 5]) := by
 refine Con.enterM Try.func47 Try.ntmps47 (Nat.le_of_ble_eq_true rfl) rfl fun w hS => ?_
 refine At.seq ?_
 refine At.region ?_
 refine At.s (S_box (some 3) 203 (zs := [ptr bJ 0]) rfl rfl rfl (fun b203 => ?_))
 refine At.s (S_alloc (some 6) 206 (zs := [iV 0]) rfl ze24 rfl (fun b206 => ?_))
 refine At.nil ?_
 refine At.next ?_
 refine At.seq ?_
 refine At.draws 12 [] [.q false [0, 1, 2, 3, 4, 5, 6, 7, 8, 9, 10], .e false 11] (by kernel_rfl) (by kernel_rfl) ?_
 refine At.wq (some 10) (Q_loadO (k := 203) rfl rfl Try.underlying50 rfl rfl rfl) ?_
 refine At.wp (some 11) (P_nilCheck rfl rfl) ?_
 refine At.wp (some 12) (P_fieldAddr0 (off := 0) rfl Try.underlying82 rfl sz23 rfl rfl) ?_
 refine At.wq (some 13) (Q_loadO (k := 2) rfl rfl Try.underlying23 rfl rfl rfl) ?_
 refine At.wp (some 14) (P_move rfl rfl) ?_
 refine At.wcV (some 15) [(0, _), (1, _)] (vs := [_, _]) rfl en49 rfl (VN (by simp) rfl View.all (VN (by simp) rfl View.all V0)) (c_jfirst (bD := bD) (bS := bS) (cD := cD) (nD := nD) (rD := rD) (S := S) (wr := wr) (a := ar) (by omega) (by omega) (by omega) (by omega) (by omega) (by omega) (by omega)) ?_
 have := fst_le nD ar (by omega)
 refine At.wq (some 16) (Q_loadO (k := 203) rfl rfl Try.underlying50 rfl rfl rfl) ?_
 refine At.wp (some 17) (P_nilCheck rfl rfl) ?_
 refine At.wp (some 18) (P_fieldAddr0 (off := 4) rfl Try.underlying82 rfl sz3 rfl rfl) ?_
 refine At.wq (some 19) (Q_loadO (k := 2) rfl rfl Try.underlying3 rfl rfl rfl) ?_
 refine At.wp (some 20) (P_add_i rfl rfl rfl (by omega)) ?_
 refine At.wqn ?_
 refine At.we ?_
 refine S_alloc (some 7) 207 (zs := [iV 0]) rfl ze3 rfl (fun b207 => ?_)
 refine At.wt rfl ?_
 refine At.s (S_store none (k := 207) rfl rfl rfl sz3 rfl rfl rfl LN ?_)
 refine At.nil ?_
 refine At.next ?_
 refine At.seq ?_
 refine At.seq ?_
 refine At.draws 10 [] [.q false [0, 1, 2, 3, 4, 5, 6, 7, 8, 9]] (by kernel_rfl) (by kernel_rfl) ?_
 refine At.wq (some 21) (Q_loadO (k := 203) rfl rfl Try.underlying50 rfl rfl rfl) ?_
 refine At.wp (some 22) (P_nilCheck rfl rfl) ?_
 refine At.wp (some 23) (P_fieldAddr0 (off := 1) rfl Try.underlying82 rfl sz22 rfl rfl) ?_
 refine At.wq (some 24) (Q_loadO (k := 2) rfl rfl Try.underlying22 rfl rfl rfl) ?_
 refine At.wq (some 25) (Q_loadO (k := 203) rfl rfl Try.underlying50 rfl rfl rfl) ?_
 refine At.wp (some 26) (P_nilCheck rfl rfl) ?_
 refine At.wp (some 27) (P_fieldAddr0 (off := 3) rfl Try.underlying82 rfl sz44 rfl rfl) ?_
 refine At.wq (some 28) (Q_loadO (k := 2) rfl rfl Try.underlying44 rfl rfl rfl) ?_
 refine At.wp (some 29) (P_len_sl rfl rfl ⟨_, Try.underlying44⟩ rfl) ?_
 refine At.wp (some 30) (P_move rfl rfl) ?_
 refine At.wqn ?_
 refine At.wt rfl ?_
 refine At.s (S_callV (some 31) [(3, _)] [31] (vs := [_, _, _]) rfl en56 rfl (VN (by simp) rfl View.all V0) (by simp) (c_sectors (gen := gen) (k := 0) (e := e) (ne := ne) (Ae := Ae) (ce := ce) (be := be) (qe := qe) LN hAe OG) (by rintro _ _ ⟨A31, b31, c31, g31a, g31b, rfl, rfl⟩; rfl) ?_)
 rintro _ _ ⟨A31, b31, c31, g31a, g31b, rfl, rfl⟩
 have hsec : (secB gen 0 e).length = 64 := secB_len (by omega)
 refine At.s (S_callV (some 32) [] [205, 208] (vs := [_, _]) rfl en55 rfl V0 (by simp) (c_Chunk A31 (secB gen 0 e).length c31 64 (by decide)) (by rintro _ _ ⟨bs, bn, rfl, rfl⟩; rfl) ?_)
 rintro _ _ ⟨bs, bn, rfl, rfl⟩
 refine At.nil ?_
 refine At.next ?_
 refine At.block ?_
 refine At.to [(0, _), (1, _), (2, _), (3, _), (6, _), (7, _), (10, _), (11, _), (12, _), (13, _), (14, _), (15, _), (16, _), (17, _), (18, _), (19, _), (20, _), (21, _), (22, _), (23, _), (24, _), (25, _), (26, _), (27, _), (28, _), (29, _), (30, _), (31, _), (32, _)] [(0, _), (1, _), (2, _), (3, _), (31, _), (203, _), (205, _), (206, _), (207, _), (208, _)] (AllL.cons_ (rfl) (AllL.cons_ (rfl) (AllL.cons_ (rfl) (AllL.cons_ (rfl) (AllL.cons_ (rfl) (AllL.cons_ (rfl) (AllL.cons_ (rfl) (AllL.cons_ (rfl) (AllL.cons_ (rfl) (AllL.cons_ (rfl) (AllL.cons_ (rfl) (AllL.cons_ (rfl) (AllL.cons_ (rfl) (AllL.cons_ (rfl) (AllL.cons_ (rfl) (AllL.cons_ (rfl) (AllL.cons_ (rfl) (AllL.cons_ (rfl) (AllL.cons_ (rfl) (AllL.cons_ (rfl) (AllL.cons_ (rfl) (AllL.cons_ (rfl) (AllL.cons_ (rfl) (AllL.cons_ (rfl) (AllL.cons_ (rfl) (AllL.cons_ (rfl) (AllL.cons_ (rfl) (AllL.cons_ (rfl) (AllL.cons_ (rfl) trivial))))))))))))))))))))))))))))) (AllL.cons_ (rfl) (AllL.cons_ (rfl) (AllL.cons_ (rfl) (AllL.cons_ (rfl) (AllL.cons_ (rfl) (AllL.cons_ (rfl) (AllL.cons_ (rfl) (AllL.cons_ (rfl) (AllL.cons_ (rfl) (AllL.cons_ (rfl) trivial)))))))))) ?_
 refine At.range (C2 bs bn (.slice A31 (secB gen 0 e).length c31) (iV ((64 : Nat) : Int))) (it_Chunk A31 (secB gen 0 e).length c31 64 bs bn (by decide) g31b (by omega) (by decide)) (fun i H => H = hOf [(0, dH true bD bS cD nD (stI wr (wr + 1) i)), (1, rowS true bS (stp S (splice S (fstS nD ar * 64) (secB gen 0 e)) i) rD), (2, ⟨true, bJ, 0, 82, [ptr bD 0, u64V gen, iV (ar : Int), .slice none 0 0, iV 0, .bool false], 0⟩), (3, pRow be qe e), (31, ⟨true, b31, 0, 5, (secB gen 0 e).map u8V, c31 - (secB gen 0 e).length⟩), (203, ⟨true, b203, 0, 50, [ptr bJ 0], 0⟩), (205, ⟨true, bs, 0, 27, [.slice A31 ((secB gen 0 e).length) c31], 0⟩), (206, ⟨true, b206, 0, 24, [iV 0], 0⟩), (207, ⟨true, b207, 0, 3, [iV ((fstS nD ar + 0 + i : Nat) : Int)], 0⟩), (208, ⟨true, bn, 0, 3, [iV ((64 : Nat) : Int)], 0⟩)] ∧ True) (fun H => False) (fun x => frOf [(0, ptr bJ 0), (1, .slice Ae ne ce), (2, iV (ar : Int)), (3, ptr b203 0), (6, ptr b206 0), (7, ptr b207 0), (10, ptr bJ 0), (11, ptr bJ 0), (12, ptr bJ 0), (13, ptr bD 0), (14, iV (ar : Int)), (15, iV (fstS nD ar : Int)), (16, ptr bJ 0), (17, ptr bJ 0), (18, ptr bJ 4), (19, iV 0), (20, iV ((fstS nD ar : Int) + 0)), (21, ptr bJ 0), (22, ptr bJ 0), (23, ptr bJ 1), (24, u64V gen), (25, ptr bJ 0), (26, ptr bJ 0), (27, ptr bJ 3), (28, .slice none 0 0), (29, iV 0), (30, .slice Ae ne ce), (31, .slice A31 ((secB gen 0 e).length) c31), (32, .func (.func 63) #[] #[ptr bs 0, ptr bn 0]), (8, x)]) rfl en63 rfl hS ?_ ?_ ?_ ?_ ?_ ?_
 ·
  rintro i _ w ⟨rfl, -⟩ hc hh
  exact ⟨hh.cell hc (k := 205) (j := 0) rfl rfl, hh.cell hc (k := 208) (j := 0) rfl rfl⟩
 · exact ⟨rfl, trivial⟩
 ·
  intro lR nR wbR XR x H' K hKa
  refine At.regionR (fun ⟨_, _, h⟩ => h) ?_
  refine At.p (some 8) (P_assign rfl rfl) ?_
  refine At.nil ?_
  refine At.next ?_
  exact At.toF [(0, _), (1, _), (2, _), (3, _), (6, _), (7, _), (10, _), (11, _), (12, _), (13, _), (14, _), (15, _), (16, _), (17, _), (18, _), (19, _), (20, _), (21, _), (22, _), (23, _), (24, _), (25, _), (26, _), (27, _), (28, _), (29, _), (30, _), (31, _), (32, _), (8, _)] (AllL.cons_ (rfl) (AllL.cons_ (rfl) (AllL.cons_ (rfl) (AllL.cons_ (rfl) (AllL.cons_ (rfl) (AllL.cons_ (rfl) (AllL.cons_ (rfl) (AllL.cons_ (rfl) (AllL.cons_ (rfl) (AllL.cons_ (rfl) (AllL.cons_ (rfl) (AllL.cons_ (rfl) (AllL.cons_ (rfl) (AllL.cons_ (rfl) (AllL.cons_ (rfl) (AllL.cons_ (rfl) (AllL.cons_ (rfl) (AllL.cons_ (rfl) (AllL.cons_ (rfl) (AllL.cons_ (rfl) (AllL.cons_ (rfl) (AllL.cons_ (rfl) (AllL.cons_ (rfl) (AllL.cons_ (rfl) (AllL.cons_ (rfl) (AllL.cons_ (rfl) (AllL.cons_ (rfl) (AllL.cons_ (rfl) (AllL.cons_ (rfl) (AllL.cons_ (rfl) trivial)))))))))))))))))))))))))))))) hKa
 ·
  rintro lR nR wbR XR i x _ hx ⟨rfl, -⟩ Q' hK hR hno
  obtain ⟨hlt, rfl⟩ := chunksV_some (by decide) hx
  have hi : i = 0 := by omega
  have hwi : stI wr (wr + 1) i = wr := by rw [hi]; rfl
  have hsl : (stp S (splice S (fstS nD ar * 64) (secB gen 0 e)) i).length = nD * 64 := by rw [hi]; exact hSl
  refine At.blockR ?_
  refine At.seqR ?_
  refine At.seqR ?_
  refine At.drawsR 6 [] [.q false [0, 1, 2, 3, 4, 5]] (by kernel_rfl) (by kernel_rfl) (fun ⟨a, w, h⟩ => hno a w h) ?_
  refine At.wq (some 34) (Q_loadO (k := 203) rfl rfl Try.underlying50 rfl rfl rfl) ?_
  refine At.wp (some 35) (P_nilCheck rfl rfl) ?_
  refine At.wp (some 36) (P_fieldAddr0 (off := 0) rfl Try.underlying82 rfl sz23 rfl rfl) ?_
  refine At.wq (some 37) (Q_loadO (k := 2) rfl rfl Try.underlying23 rfl rfl rfl) ?_
  refine At.wq (some 38) (Q_loadO (k := 207) rfl rfl Try.underlying3 rfl rfl rfl) ?_
  refine At.wp (some 39) (P_move rfl rfl) ?_
  refine At.wqn ?_
  refine At.wt rfl ?_
  have : (splice (stp S (splice S (fstS nD ar * 64) (secB gen 0 e)) i) ((fstS nD ar + 0 + i) * 64) (((secB gen 0 e).drop (i * 64)).take (min 64 ((secB gen 0 e).length - i * 64)))).length = nD * 64 := splice_len (by assumption) (by have hx : (((secB gen 0 e).drop (i * 64)).take (min 64 ((secB gen 0 e).length - i * 64))).length = (min 64 ((secB gen 0 e).length - i * 64)) := LN; omega)
  refine At.s (S_callR (some 40) [(0, _), (1, _)] [(31, _)] [0, 1] (vs := [_, _, _]) rfl en11 rfl (ON rfl rfl (ON rfl rfl O0)) (by simp) (VN (by simp) rfl (View.sub (j := (i * 64)) (m := (min 64 ((secB gen 0 e).length - i * 64))) rfl rfl) V0) (by simp) (c_WriteH (n := nD) (c := cD) (b := bD) (bs := bS) (wr := (stI wr (wr + 1) i)) (rest := rD) (k := (fstS nD ar + 0 + i)) (S := (stp S (splice S (fstS nD ar * 64) (secB gen 0 e)) i)) (l := (((secB gen 0 e).drop (i * 64)).take (min 64 ((secB gen 0 e).length - i * 64)))) (A := (A31.map (·.add (i * 64)))) (nl := (min 64 ((secB gen 0 e).length - i * 64))) (ca := (min 64 ((secB gen 0 e).length - i * 64))) (bq := b31) (q := (0 + i * 64)) (by omega) (by omega) (by omega) (by omega) (by omega) (by omega) LN (by omega) (fun h => chunk_addr (g31a (by omega)) _)) (by rintro _ _ ⟨rfl, rfl⟩; rfl) ?_)
  rintro _ _ ⟨rfl, rfl⟩
  refine At.p (some 9) (P_assign rfl rfl) ?_
  refine At.nil ?_
  refine At.next ?_
  refine At.seqR ?_
  refine At.regionR (fun ⟨a, w, h⟩ => hno a w h) ?_
  refine At.p (some 41) (P_move rfl rfl) ?_
  refine At.p (some 42) (P_cmp rfl rfl rfl rfl rfl rfl) ?_
  refine At.nil ?_
  refine At.next ?_
  refine At.condR rfl (fun h42 => by exact absurd h42 (by decide)) (fun h42 => ?_)
  have e42 : 0 = 0 := bne_eq_false_iff_eq.1 h42
  refine At.skipR ?_
  refine At.next ?_
  refine At.regionR (fun ⟨a, w, h⟩ => hno a w h) ?_
  refine At.q (some 46) (Q_loadO (k := 207) rfl rfl Try.underlying3 rfl rfl rfl) ?_
  refine At.p (some 47) (P_add_i rfl rfl rfl (by omega)) ?_
  refine At.s (S_store none (k := 207) rfl rfl rfl sz3 rfl rfl rfl LN ?_)
  refine At.nil ?_
  refine At.inb_n ?_
  refine At.toH [(0, dH true bD bS cD nD (stI wr (wr + 1) (i + 1))), (1, rowS true bS (stp S (splice S (fstS nD ar * 64) (secB gen 0 e)) (i + 1)) rD), (2, _), (3, _), (31, _), (203, _), (205, _), (206, _), (207, ⟨true, b207, 0, 3, [iV ((fstS nD ar + 0 + (i + 1) : Nat) : Int)], 0⟩), (208, _)] (AllL.cons_ ((by subst hi; rfl)) (AllL.cons_ ((by subst hi; exact congrArg (fun z => some (rowS true bS z rD)) (put_S hsec))) (AllL.cons_ (rfl) (AllL.cons_ (rfl) (AllL.cons_ (rfl) (AllL.cons_ (rfl) (AllL.cons_ (rfl) (AllL.cons_ (rfl) (AllL.cons_ ((by subst hi; rfl)) (AllL.cons_ (rfl) trivial)))))))))) ?_
  exact hK _ _ ⟨rfl, trivial⟩
 ·
  rintro D w1 hX hD _ ⟨rfl, -⟩
  have hi1 : ((secB gen 0 e).length + 64 - 1) / 64 = 1 := by rw [hsec]
  rw [chunksV_len, hi1]
  refine At.inb_n ?_
  refine At.next ?_
  refine At.seq ?_
  refine At.bBruteG [8, 11] (fun fr H => ∃ (A54 : Option Addr) (b54 c54 : Nat) (b55 : Nat) (A56 : Option Addr) (b56 c56 : Nat), fr = frOf [(1, .slice Ae ne ce), (3, ptr b203 0), (6, ptr b206 0)] ∧ H = hOf [(0, dH true bD bS cD nD (stI wr (wr + 1) 1)), (1, rowS true bS (stp S (splice S (fstS nD ar * 64) (secB gen 0 e)) 1) rD), (2, ⟨true, bJ, 0, 82, [ptr bD 0, u64V gen, iV (ar : Int), .slice A56 ([(BE.mk A54 b54 c54 e)].length) c56, iV 0, .bool false], 0⟩), (3, pRow be qe e), (54, ⟨true, b54, 0, 5, (e).map u8V, c54 - (e).length⟩), (56, ⟨true, b56, 0, 27, ([(BE.mk A54 b54 c54 e)]).map BE.v, c56 - ([(BE.mk A54 b54 c54 e)]).length⟩), (203, ⟨true, b203, 0, 50, [ptr bJ 0], 0⟩), (206, ⟨true, b206, 0, 24, [iV 0], 0⟩)] ∧ (0 < c54 → A54 = some ⟨b54, 0, none⟩) ∧ (e.length ≤ c54) ∧ (0 < c56 → A56 = some ⟨b56, 0, none⟩) ∧ ([(BE.mk A54 b54 c54 e)].length ≤ c56) ∧ True) (by kernel_rfl) ?_ ?_
  ·
   intro Kb hKb G hGi hGo
   have hG9_0 (A54 : Option Addr) (b54 c54 : Nat) (b55 : Nat) (A56 : Option Addr) (b56 c56 : Nat) (g54a : 0 < c54 → A54 = some ⟨b54, 0, none⟩) (g54b : e.length ≤ c54) (g56a : 0 < c56 → A56 = some ⟨b56, 0, none⟩) (g56b : [(BE.mk A54 b54 c54 e)].length ≤ c56) : G 0 #[true, true, true, true, true, true, true, true, true, true, true, true] (frOf [(1, .slice Ae ne ce), (3, ptr b203 0), (6, ptr b206 0)]) (hOf [(0, dH true bD bS cD nD (stI wr (wr + 1) 1)), (1, rowS true bS (stp S (splice S (fstS nD ar * 64) (secB gen 0 e)) 1) rD), (2, ⟨true, bJ, 0, 82, [ptr bD 0, u64V gen, iV (ar : Int), .slice A56 ([(BE.mk A54 b54 c54 e)].length) c56, iV 0, .bool false], 0⟩), (3, pRow be qe e), (54, ⟨true, b54, 0, 5, (e).map u8V, c54 - (e).length⟩), (56, ⟨true, b56, 0, 27, ([(BE.mk A54 b54 c54 e)]).map BE.v, c56 - ([(BE.mk A54 b54 c54 e)]).length⟩), (203, ⟨true, b203, 0, 50, [ptr bJ 0], 0⟩), (206, ⟨true, b206, 0, 24, [iV 0], 0⟩)]) := by
    refine hGo ?_
    refine At.bEnd (by kernel_rfl) ?_
    refine At.next ?_
    exact hKb _ _ ⟨A54, b54, c54, b55, A56, b56, c56, rfl, rfl, g54a, g54b, g56a, g56b, trivial⟩
   have hG9_1 (A54 : Option Addr) (b54 c54 : Nat) (b55 : Nat) (A56 : Option Addr) (b56 c56 : Nat) (g54a : 0 < c54 → A54 = some ⟨b54, 0, none⟩) (g54b : e.length ≤ c54) (g56a : 0 < c56 → A56 = some ⟨b56, 0, none⟩) (g56b : [(BE.mk A54 b54 c54 e)].length ≤ c56) : G 1 #[true, true, true, true, true, true, true, true, true, true, true, false] (frOf [(1, .slice Ae ne ce), (3, ptr b203 0), (6, ptr b206 0), (56, .slice A56 ([(BE.mk A54 b54 c54 e)].length) c56), (58, ptr bJ 3)]) (hOf [(0, dH true bD bS cD nD (stI wr (wr + 1) 1)), (1, rowS true bS (stp S (splice S (fstS nD ar * 64) (secB gen 0 e)) 1) rD), (2, ⟨true, bJ, 0, 82, [ptr bD 0, u64V gen, iV (ar : Int), .slice none 0 0, iV 0, .bool false], 0⟩), (3, pRow be qe e), (54, ⟨true, b54, 0, 5, (e).map u8V, c54 - (e).length⟩), (56, ⟨true, b56, 0, 27, ([(BE.mk A54 b54 c54 e)]).map BE.v, c56 - ([(BE.mk A54 b54 c54 e)]).length⟩), (203, ⟨true, b203, 0, 50, [ptr bJ 0], 0⟩), (206, ⟨true, b206, 0, 24, [iV 0], 0⟩)]) := by
    refine hGo ?_
    refine At.bStep [11] (by kernel_rfl) (by simp) ?_
    refine At.bS true (by kernel_rfl) (S_store none (k := 2) rfl rfl rfl sz44 rfl rfl rfl LN ?_)
    exact At.into (hGi (hG9_0 A54 b54 c54 b55 A56 b56 c56 g54a g54b g56a g56b)) rfl rfl
   have hG9_2 (A54 : Option Addr) (b54 c54 : Nat) (b55 : Nat) (g54a : 0 < c54 → A54 = some ⟨b54, 0, none⟩) (g54b : e.length ≤ c54) : G 4 #[true, true, true, true, true, true, true, true, false, false, false, false] (frOf [(1, .slice Ae ne ce), (3, ptr b203 0), (6, ptr b206 0), (48, ptr bJ 0), (52, .slice none 0 0), (55, .slice (some ⟨b55, 0, none⟩) 1 1)]) (hOf [(0, dH true bD bS cD nD (stI wr (wr + 1) 1)), (1, rowS true bS (stp S (splice S (fstS nD ar * 64) (secB gen 0 e)) 1) rD), (2, ⟨true, bJ, 0, 82, [ptr bD 0, u64V gen, iV (ar : Int), .slice none 0 0, iV 0, .bool false], 0⟩), (3, pRow be qe e), (54, ⟨true, b54, 0, 5, (e).map u8V, c54 - (e).length⟩), (55, ⟨true, b55, 0, 27, ([(BE.mk A54 b54 c54 e)]).map BE.v, 0⟩), (203, ⟨true, b203, 0, 50, [ptr bJ 0], 0⟩), (206, ⟨true, b206, 0, 24, [iV 0], 0⟩)]) := by
    clear hG9_0
    refine hGo ?_
    refine At.bStep [8] (by kernel_rfl) (by simp) ?_
    refine At.bS true (by kernel_rfl) (S_appendM (some 56) 56 ([(BE.mk A54 b54 c54 e)]) (f := BE.v) (l := []) (L := [(BE.mk A54 b54 c54 e)]) (m := 1) (b := 0) (rest := 0) rfl Try.underlying44 Try.underlying44 (.inr ⟨_, rfl⟩) sz27 by27 ze27 rfl rfl (fun h => absurd h (Nat.lt_irrefl 0)) rfl rfl (Src.all (k := 55) (l := [(BE.mk A54 b54 c54 e)]) rfl (fun _ => rfl) (fun _ => ⟨rfl, rfl, rfl⟩) LN) (fun _ => rfl) OG OG rfl LN ?_)
    intro A56 b56 c56 g56a g56b
    refine At.bP  9 (some 57) (P_nilCheck rfl rfl) (by kernel_rfl) (by kernel_rfl) ?_
    refine At.bP  10 (some 58) (P_fieldAddr0 (off := 3) rfl Try.underlying82 rfl sz44 rfl rfl) (by kernel_rfl) (by kernel_rfl) ?_
    exact At.into (hGi (hG9_1 A54 b54 c54 b55 A56 b56 c56 g54a g54b g56a g56b)) rfl rfl
   have hG9_3 (A54 : Option Addr) (b54 c54 : Nat) (g54a : 0 < c54 → A54 = some ⟨b54, 0, none⟩) (g54b : e.length ≤ c54) : G 5 #[true, true, true, true, true, true, true, false, false, false, false, false] (frOf [(1, .slice Ae ne ce), (3, ptr b203 0), (6, ptr b206 0), (48, ptr bJ 0), (52, .slice none 0 0), (54, .slice A54 e.length c54)]) (hOf [(0, dH true bD bS cD nD (stI wr (wr + 1) 1)), (1, rowS true bS (stp S (splice S (fstS nD ar * 64) (secB gen 0 e)) 1) rD), (2, ⟨true, bJ, 0, 82, [ptr bD 0, u64V gen, iV (ar : Int), .slice none 0 0, iV 0, .bool false], 0⟩), (3, pRow be qe e), (54, ⟨true, b54, 0, 5, (e).map u8V, c54 - (e).length⟩), (203, ⟨true, b203, 0, 50, [ptr bJ 0], 0⟩), (206, ⟨true, b206, 0, 24, [iV 0], 0⟩)]) := by
    clear hG9_0 hG9_1
    refine hGo ?_
    refine At.bStep [7] (by kernel_rfl) (by simp) ?_
    refine At.bS false (by kernel_rfl) (S_buildSliceV (some 55) 55 (([(BE.mk A54 b54 c54 e)]).map BE.v) rfl Try.underlying44 sz27 ze27 rfl rfl (by decide) (by decide) rfl rfl (fun b55 => ?_))
    exact At.into (hGi (hG9_2 A54 b54 c54 b55 g54a g54b)) rfl rfl
   have hG9_4 (A54 : Option Addr) (b54 c54 : Nat) (b55 : Nat) (g54a : 0 < c54 → A54 = some ⟨b54, 0, none⟩) (g54b : e.length ≤ c54) : G 5 #[false, true, true, true, true, true, true, true, false, false, false, false] (frOf [(1, .slice Ae ne ce), (3, ptr b203 0), (6, ptr b206 0), (52, .slice none 0 0), (55, .slice (some ⟨b55, 0, none⟩) 1 1)]) (hOf [(0, dH true bD bS cD nD (stI wr (wr + 1) 1)), (1, rowS true bS (stp S (splice S (fstS nD ar * 64) (secB gen 0 e)) 1) rD), (2, ⟨true, bJ, 0, 82, [ptr bD 0, u64V gen, iV (ar : Int), .slice none 0 0, iV 0, .bool false], 0⟩), (3, pRow be qe e), (54, ⟨true, b54, 0, 5, (e).map u8V, c54 - (e).length⟩), (55, ⟨true, b55, 0, 27, ([(BE.mk A54 b54 c54 e)]).map BE.v, 0⟩), (203, ⟨true, b203, 0, 50, [ptr bJ 0], 0⟩), (206, ⟨true, b206, 0, 24, [iV 0], 0⟩)]) := by
    clear hG9_0 hG9_3
    refine hGo ?_
    refine At.bStep [0, 8] (by kernel_rfl) (by simp) ?_
    refine ⟨?_, ?_⟩
    ·
     refine At.bSQ (some 48) (Q_loadO (k := 203) rfl rfl Try.underlying50 rfl rfl rfl) ?_
     exact At.into (hGi (hG9_2 A54 b54 c54 b55 g54a g54b)) rfl rfl
    ·
     refine At.bS true (by kernel_rfl) (S_appendM (some 56) 56 ([(BE.mk A54 b54 c54 e)]) (f := BE.v) (l := []) (L := [(BE.mk A54 b54 c54 e)]) (m := 1) (b := 0) (rest := 0) rfl Try.underlying44 Try.underlying44 (.inr ⟨_, rfl⟩) sz27 by27 ze27 rfl rfl (fun h => absurd h (Nat.lt_irrefl 0)) rfl rfl (Src.all (k := 55) (l := [(BE.mk A54 b54 c54 e)]) rfl (fun _ => rfl) (fun _ => ⟨rfl, rfl, rfl⟩) LN) (fun _ => rfl) OG OG rfl LN ?_)
     intro A56 b56 c56 g56a g56b
     refine At.bQ  0 (some 48) (Q_loadO (k := 203) rfl rfl Try.underlying50 rfl rfl rfl) (by kernel_rfl) (by kernel_rfl) ?_
     refine At.bP  9 (some 57) (P_nilCheck rfl rfl) (by kernel_rfl) (by kernel_rfl) ?_
     refine At.bP  10 (some 58) (P_fieldAddr0 (off := 3) rfl Try.underlying82 rfl sz44 rfl rfl) (by kernel_rfl) (by kernel_rfl) ?_
     exact At.into (hGi (hG9_1 A54 b54 c54 b55 A56 b56 c56 g54a g54b g56a g56b)) rfl rfl
   have hG9_5  : G 6 #[true, true, true, true, true, true, false, false, false, false, false, false] (frOf [(1, .slice Ae ne ce), (3, ptr b203 0), (6, ptr b206 0), (48, ptr bJ 0), (52, .slice none 0 0), (53, .slice Ae ne ce)]) (hOf [(0, dH true bD bS cD nD (stI wr (wr + 1) 1)), (1, rowS true bS (stp S (splice S (fstS nD ar * 64) (secB gen 0 e)) 1) rD), (2, ⟨true, bJ, 0, 82, [ptr bD 0, u64V gen, iV (ar : Int), .slice none 0 0, iV 0, .bool false], 0⟩), (3, pRow be qe e), (203, ⟨true, b203, 0, 50, [ptr bJ 0], 0⟩), (206, ⟨true, b206, 0, 24, [iV 0], 0⟩)]) := by
    clear hG9_0 hG9_1 hG9_2 hG9_4
    refine hGo ?_
    refine At.bStep [6] (by kernel_rfl) (by simp) ?_
    refine At.bS false (by kernel_rfl) (S_callV (some 54) [(3, _)] [54] (vs := [_]) rfl en51 rfl (VN (by simp) rfl View.all V0) (by simp) (c_BClone (b := e) (nb := ne) (Ab := Ae) (cb := ce) (bb := be) (qb := qe) LN hAe OG) (by rintro _ _ ⟨A54, b54, c54, g54a, g54b, rfl, rfl⟩; rfl) ?_)
    rintro _ _ ⟨A54, b54, c54, g54a, g54b, rfl, rfl⟩
    exact At.into (hGi (hG9_3 A54 b54 c54 g54a g54b)) rfl rfl
   have hG9_6 (A54 : Option Addr) (b54 c54 : Nat) (g54a : 0 < c54 → A54 = some ⟨b54, 0, none⟩) (g54b : e.length ≤ c54) : G 6 #[false, true, true, true, true, true, true, false, false, false, false, false] (frOf [(1, .slice Ae ne ce), (3, ptr b203 0), (6, ptr b206 0), (52, .slice none 0 0), (54, .slice A54 e.length c54)]) (hOf [(0, dH true bD bS cD nD (stI wr (wr + 1) 1)), (1, rowS true bS (stp S (splice S (fstS nD ar * 64) (secB gen 0 e)) 1) rD), (2, ⟨true, bJ, 0, 82, [ptr bD 0, u64V gen, iV (ar : Int), .slice none 0 0, iV 0, .bool false], 0⟩), (3, pRow be qe e), (54, ⟨true, b54, 0, 5, (e).map u8V, c54 - (e).length⟩), (203, ⟨true, b203, 0, 50, [ptr bJ 0], 0⟩), (206, ⟨true, b206, 0, 24, [iV 0], 0⟩)]) := by
    clear hG9_0 hG9_1 hG9_2 hG9_5
    refine hGo ?_
    refine At.bStep [0, 7] (by kernel_rfl) (by simp) ?_
    refine ⟨?_, ?_⟩
    ·
     refine At.bSQ (some 48) (Q_loadO (k := 203) rfl rfl Try.underlying50 rfl rfl rfl) ?_
     exact At.into (hGi (hG9_3 A54 b54 c54 g54a g54b)) rfl rfl
    ·
     refine At.bS false (by kernel_rfl) (S_buildSliceV (some 55) 55 (([(BE.mk A54 b54 c54 e)]).map BE.v) rfl Try.underlying44 sz27 ze27 rfl rfl (by decide) (by decide) rfl rfl (fun b55 => ?_))
     exact At.into (hGi (hG9_4 A54 b54 c54 b55 g54a g54b)) rfl rfl
   have hG9_7  : G 7 #[false, true, true, true, true, true, false, false, false, false, false, false] (frOf [(1, .slice Ae ne ce), (3, ptr b203 0), (6, ptr b206 0), (52, .slice none 0 0), (53, .slice Ae ne ce)]) (hOf [(0, dH true bD bS cD nD (stI wr (wr + 1) 1)), (1, rowS true bS (stp S (splice S (fstS nD ar * 64) (secB gen 0 e)) 1) rD), (2, ⟨true, bJ, 0, 82, [ptr bD 0, u64V gen, iV (ar : Int), .slice none 0 0, iV 0, .bool false], 0⟩), (3, pRow be qe e), (203, ⟨true, b203, 0, 50, [ptr bJ 0], 0⟩), (206, ⟨true, b206, 0, 24, [iV 0], 0⟩)]) := by
    clear hG9_0 hG9_1 hG9_2 hG9_3 hG9_4
    refine hGo ?_
    refine At.bStep [0, 6] (by kernel_rfl) (by simp) ?_
    refine ⟨?_, ?_⟩
    ·
     refine At.bSQ (some 48) (Q_loadO (k := 203) rfl rfl Try.underlying50 rfl rfl rfl) ?_
     exact At.into (hGi (hG9_5 )) rfl rfl
    ·
     refine At.bS false (by kernel_rfl) (S_callV (some 54) [(3, _)] [54] (vs := [_]) rfl en51 rfl (VN (by simp) rfl View.all V0) (by simp) (c_BClone (b := e) (nb := ne) (Ab := Ae) (cb := ce) (bb := be) (qb := qe) LN hAe OG) (by rintro _ _ ⟨A54, b54, c54, g54a, g54b, rfl, rfl⟩; rfl) ?_)
     rintro _ _ ⟨A54, b54, c54, g54a, g54b, rfl, rfl⟩
     exact At.into (hGi (hG9_6 A54 b54 c54 g54a g54b)) rfl rfl
   have hG9_8 (A54 : Option Addr) (b54 c54 : Nat) (b55 : Nat) (g54a : 0 < c54 → A54 = some ⟨b54, 0, none⟩) (g54b : e.length ≤ c54) : G 8 #[true, false, false, false, false, true, true, true, false, false, false, false] (frOf [(1, .slice Ae ne ce), (3, ptr b203 0), (6, ptr b206 0), (48, ptr bJ 0), (55, .slice (some ⟨b55, 0, none⟩) 1 1)]) (hOf [(0, dH true bD bS cD nD (stI wr (wr + 1) 1)), (1, rowS true bS (stp S (splice S (fstS nD ar * 64) (secB gen 0 e)) 1) rD), (2, ⟨true, bJ, 0, 82, [ptr bD 0, u64V gen, iV (ar : Int), .slice none 0 0, iV 0, .bool false], 0⟩), (3, pRow be qe e), (54, ⟨true, b54, 0, 5, (e).map u8V, c54 - (e).length⟩), (55, ⟨true, b55, 0, 27, ([(BE.mk A54 b54 c54 e)]).map BE.v, 0⟩), (203, ⟨true, b203, 0, 50, [ptr bJ 0], 0⟩), (206, ⟨true, b206, 0, 24, [iV 0], 0⟩)]) := by
    clear hG9_0 hG9_1 hG9_3 hG9_4 hG9_5 hG9_6 hG9_7
    refine hGo ?_
    refine At.bStep [1] (by kernel_rfl) (by simp) ?_
    refine At.bSQ (some 49) (Q_loadO (k := 203) rfl rfl Try.underlying50 rfl rfl rfl) ?_
    refine At.bP  2 (some 50) (P_nilCheck rfl rfl) (by kernel_rfl) (by kernel_rfl) ?_
    refine At.bP  3 (some 51) (P_fieldAddr0 (off := 3) rfl Try.underlying82 rfl sz44 rfl rfl) (by kernel_rfl) (by kernel_rfl) ?_
    refine At.bQ  4 (some 52) (Q_loadO (k := 2) rfl rfl Try.underlying44 rfl rfl rfl) (by kernel_rfl) (by kernel_rfl) ?_
    exact At.into (hGi (hG9_2 A54 b54 c54 b55 g54a g54b)) rfl rfl
   have hG9_9 (A54 : Option Addr) (b54 c54 : Nat) (g54a : 0 < c54 → A54 = some ⟨b54, 0, none⟩) (g54b : e.length ≤ c54) : G 9 #[true, false, false, false, false, true, true, false, false, false, false, false] (frOf [(1, .slice Ae ne ce), (3, ptr b203 0), (6, ptr b206 0), (48, ptr bJ 0), (54, .slice A54 e.length c54)]) (hOf [(0, dH true bD bS cD nD (stI wr (wr + 1) 1)), (1, rowS true bS (stp S (splice S (fstS nD ar * 64) (secB gen 0 e)) 1) rD), (2, ⟨true, bJ, 0, 82, [ptr bD 0, u64V gen, iV (ar : Int), .slice none 0 0, iV 0, .bool false], 0⟩), (3, pRow be qe e), (54, ⟨true, b54, 0, 5, (e).map u8V, c54 - (e).length⟩), (203, ⟨true, b203, 0, 50, [ptr bJ 0], 0⟩), (206, ⟨true, b206, 0, 24, [iV 0], 0⟩)]) := by
    clear hG9_0 hG9_1 hG9_2 hG9_4 hG9_5 hG9_6 hG9_7
    refine hGo ?_
    refine At.bStep [1, 7] (by kernel_rfl) (by simp) ?_
    refine ⟨?_, ?_⟩
    ·
     refine At.bSQ (some 49) (Q_loadO (k := 203) rfl rfl Try.underlying50 rfl rfl rfl) ?_
     refine At.bP  2 (some 50) (P_nilCheck rfl rfl) (by kernel_rfl) (by kernel_rfl) ?_
     refine At.bP  3 (some 51) (P_fieldAddr0 (off := 3) rfl Try.underlying82 rfl sz44 rfl rfl) (by kernel_rfl) (by kernel_rfl) ?_
     refine At.bQ  4 (some 52) (Q_loadO (k := 2) rfl rfl Try.underlying44 rfl rfl rfl) (by kernel_rfl) (by kernel_rfl) ?_
     exact At.into (hGi (hG9_3 A54 b54 c54 g54a g54b)) rfl rfl
    ·
     refine At.bS false (by kernel_rfl) (S_buildSliceV (some 55) 55 (([(BE.mk A54 b54 c54 e)]).map BE.v) rfl Try.underlying44 sz27 ze27 rfl rfl (by decide) (by decide) rfl rfl (fun b55 => ?_))
     exact At.into (hGi (hG9_8 A54 b54 c54 b55 g54a g54b)) rfl rfl
   have hG9_10 (A54 : Option Addr) (b54 c54 : Nat) (b55 : Nat) (g54a : 0 < c54 → A54 = some ⟨b54, 0, none⟩) (g54b : e.length ≤ c54) : G 9 #[false, false, false, false, false, true, true, true, false, false, false, false] (frOf [(1, .slice Ae ne ce), (3, ptr b203 0), (6, ptr b206 0), (55, .slice (some ⟨b55, 0, none⟩) 1 1)]) (hOf [(0, dH true bD bS cD nD (stI wr (wr + 1) 1)), (1, rowS true bS (stp S (splice S (fstS nD ar * 64) (secB gen 0 e)) 1) rD), (2, ⟨true, bJ, 0, 82, [ptr bD 0, u64V gen, iV (ar : Int), .slice none 0 0, iV 0, .bool false], 0⟩), (3, pRow be qe e), (54, ⟨true, b54, 0, 5, (e).map u8V, c54 - (e).length⟩), (55, ⟨true, b55, 0, 27, ([(BE.mk A54 b54 c54 e)]).map BE.v, 0⟩), (203, ⟨true, b203, 0, 50, [ptr bJ 0], 0⟩), (206, ⟨true, b206, 0, 24, [iV 0], 0⟩)]) := by
    clear hG9_0 hG9_1 hG9_2 hG9_3 hG9_5 hG9_6 hG9_7 hG9_9
    refine hGo ?_
    refine At.bStep [0, 1] (by kernel_rfl) (by simp) ?_
    refine ⟨?_, ?_⟩
    ·
     refine At.bSQ (some 48) (Q_loadO (k := 203) rfl rfl Try.underlying50 rfl rfl rfl) ?_
     exact At.into (hGi (hG9_8 A54 b54 c54 b55 g54a g54b)) rfl rfl
    ·
     refine At.bSQ (some 49) (Q_loadO (k := 203) rfl rfl Try.underlying50 rfl rfl rfl) ?_
     refine At.bP  2 (some 50) (P_nilCheck rfl rfl) (by kernel_rfl) (by kernel_rfl) ?_
     refine At.bP  3 (some 51) (P_fieldAddr0 (off := 3) rfl Try.underlying82 rfl sz44 rfl rfl) (by kernel_rfl) (by kernel_rfl) ?_
     refine At.bQ  4 (some 52) (Q_loadO (k := 2) rfl rfl Try.underlying44 rfl rfl rfl) (by kernel_rfl) (by kernel_rfl) ?_
     exact At.into (hGi (hG9_4 A54 b54 c54 b55 g54a g54b)) rfl rfl
   have hG9_11  : G 10 #[true, false, false, false, false, true, false, false, false, false, false, false] (frOf [(1, .slice Ae ne ce), (3, ptr b203 0), (6, ptr b206 0), (48, ptr bJ 0), (53, .slice Ae ne ce)]) (hOf [(0, dH true bD bS cD nD (stI wr (wr + 1) 1)), (1, rowS true bS (stp S (splice S (fstS nD ar * 64) (secB gen 0 e)) 1) rD), (2, ⟨true, bJ, 0, 82, [ptr bD 0, u64V gen, iV (ar : Int), .slice none 0 0, iV 0, .bool false], 0⟩), (3, pRow be qe e), (203, ⟨true, b203, 0, 50, [ptr bJ 0], 0⟩), (206, ⟨true, b206, 0, 24, [iV 0], 0⟩)]) := by
    clear hG9_0 hG9_1 hG9_2 hG9_3 hG9_4 hG9_6 hG9_7 hG9_8 hG9_10
    refine hGo ?_
    refine At.bStep [1, 6] (by kernel_rfl) (by simp) ?_
    refine ⟨?_, ?_⟩
    ·
     refine At.bSQ (some 49) (Q_loadO (k := 203) rfl rfl Try.underlying50 rfl rfl rfl) ?_
     refine At.bP  2 (some 50) (P_nilCheck rfl rfl) (by kernel_rfl) (by kernel_rfl) ?_
     refine At.bP  3 (some 51) (P_fieldAddr0 (off := 3) rfl Try.underlying82 rfl sz44 rfl rfl) (by kernel_rfl) (by kernel_rfl) ?_
     refine At.bQ  4 (some 52) (Q_loadO (k := 2) rfl rfl Try.underlying44 rfl rfl rfl) (by kernel_rfl) (by kernel_rfl) ?_
     exact At.into (hGi (hG9_5 )) rfl rfl
    ·
     refine At.bS false (by kernel_rfl) (S_callV (some 54) [(3, _)] [54] (vs := [_]) rfl en51 rfl (VN (by simp) rfl View.all V0) (by simp) (c_BClone (b := e) (nb := ne) (Ab := Ae) (cb := ce) (bb := be) (qb := qe) LN hAe OG) (by rintro _ _ ⟨A54, b54, c54, g54a, g54b, rfl, rfl⟩; rfl) ?_)
     rintro _ _ ⟨A54, b54, c54, g54a, g54b, rfl, rfl⟩
     exact At.into (hGi (hG9_9 A54 b54 c54 g54a g54b)) rfl rfl
   have hG9_12 (A54 : Option Addr) (b54 c54 : Nat) (g54a : 0 < c54 → A54 = some ⟨b54, 0, none⟩) (g54b : e.length ≤ c54) : G 10 #[false, false, false, false, false, true, true, false, false, false, false, false] (frOf [(1, .slice Ae ne ce), (3, ptr b203 0), (6, ptr b206 0), (54, .slice A54 e.length c54)]) (hOf [(0, dH true bD bS cD nD (stI wr (wr + 1) 1)), (1, rowS true bS (stp S (splice S (fstS nD ar * 64) (secB gen 0 e)) 1) rD), (2, ⟨true, bJ, 0, 82, [ptr bD 0, u64V gen, iV (ar : Int), .slice none 0 0, iV 0, .bool false], 0⟩), (3, pRow be qe e), (54, ⟨true, b54, 0, 5, (e).map u8V, c54 - (e).length⟩), (203, ⟨true, b203, 0, 50, [ptr bJ 0], 0⟩), (206, ⟨true, b206, 0, 24, [iV 0], 0⟩)]) := by
    clear hG9_0 hG9_1 hG9_2 hG9_3 hG9_4 hG9_5 hG9_7 hG9_8 hG9_11
    refine hGo ?_
    refine At.bStep [0, 1, 7] (by kernel_rfl) (by simp) ?_
    refine ⟨?_, ?_, ?_⟩
    ·
     refine At.bSQ (some 48) (Q_loadO (k := 203) rfl rfl Try.underlying50 rfl rfl rfl) ?_
     exact At.into (hGi (hG9_9 A54 b54 c54 g54a g54b)) rfl rfl
    ·
     refine At.bSQ (some 49) (Q_loadO (k := 203) rfl rfl Try.underlying50 rfl rfl rfl) ?_
     refine At.bP  2 (some 50) (P_nilCheck rfl rfl) (by kernel_rfl) (by kernel_rfl) ?_
     refine At.bP  3 (some 51) (P_fieldAddr0 (off := 3) rfl Try.underlying82 rfl sz44 rfl rfl) (by kernel_rfl) (by kernel_rfl) ?_
     refine At.bQ  4 (some 52) (Q_loadO (k := 2) rfl rfl Try.underlying44 rfl rfl rfl) (by kernel_rfl) (by kernel_rfl) ?_
     exact At.into (hGi (hG9_6 A54 b54 c54 g54a g54b)) rfl rfl
    ·
     refine At.bS false (by kernel_rfl) (S_buildSliceV (some 55) 55 (([(BE.mk A54 b54 c54 e)]).map BE.v) rfl Try.underlying44 sz27 ze27 rfl rfl (by decide) (by decide) rfl rfl (fun b55 => ?_))
     exact At.into (hGi (hG9_10 A54 b54 c54 b55 g54a g54b)) rfl rfl
   have hG9_13  : G 11 #[false, false, false, false, false, true, false, false, false, false, false, false] (frOf [(1, .slice Ae ne ce), (3, ptr b203 0), (6, ptr b206 0), (53, .slice Ae ne ce)]) (hOf [(0, dH true bD bS cD nD (stI wr (wr + 1) 1)), (1, rowS true bS (stp S (splice S (fstS nD ar * 64) (secB gen 0 e)) 1) rD), (2, ⟨true, bJ, 0, 82, [ptr bD 0, u64V gen, iV (ar : Int), .slice none 0 0, iV 0, .bool false], 0⟩), (3, pRow be qe e), (203, ⟨true, b203, 0, 50, [ptr bJ 0], 0⟩), (206, ⟨true, b206, 0, 24, [iV 0], 0⟩)]) := by
    clear hG9_0 hG9_1 hG9_2 hG9_3 hG9_4 hG9_5 hG9_6 hG9_8 hG9_9 hG9_10
    refine hGo ?_
    refine At.bStep [0, 1, 6] (by kernel_rfl) (by simp) ?_
    refine ⟨?_, ?_, ?_⟩
    ·
     refine At.bSQ (some 48) (Q_loadO (k := 203) rfl rfl Try.underlying50 rfl rfl rfl) ?_
     exact At.into (hGi (hG9_11 )) rfl rfl
    ·
     refine At.bSQ (some 49) (Q_loadO (k := 203) rfl rfl Try.underlying50 rfl rfl rfl) ?_
     refine At.bP  2 (some 50) (P_nilCheck rfl rfl) (by kernel_rfl) (by kernel_rfl) ?_
     refine At.bP  3 (some 51) (P_fieldAddr0 (off := 3) rfl Try.underlying82 rfl sz44 rfl rfl) (by kernel_rfl) (by kernel_rfl) ?_
     refine At.bQ  4 (some 52) (Q_loadO (k := 2) rfl rfl Try.underlying44 rfl rfl rfl) (by kernel_rfl) (by kernel_rfl) ?_
     exact At.into (hGi (hG9_7 )) rfl rfl
    ·
     refine At.bS false (by kernel_rfl) (S_callV (some 54) [(3, _)] [54] (vs := [_]) rfl en51 rfl (VN (by simp) rfl View.all V0) (by simp) (c_BClone (b := e) (nb := ne) (Ab := Ae) (cb := ce) (bb := be) (qb := qe) LN hAe OG) (by rintro _ _ ⟨A54, b54, c54, g54a, g54b, rfl, rfl⟩; rfl) ?_)
     rintro _ _ ⟨A54, b54, c54, g54a, g54b, rfl, rfl⟩
     exact At.into (hGi (hG9_12 A54 b54 c54 g54a g54b)) rfl rfl
   clear hG9_0 hG9_1 hG9_2 hG9_3 hG9_4 hG9_5 hG9_6 hG9_7 hG9_8 hG9_9 hG9_10 hG9_11 hG9_12
   refine hGo ?_
   refine At.bP  5 (some 53) (P_move rfl rfl) (by kernel_rfl) (by kernel_rfl) ?_
   exact At.into (hGi (hG9_13 )) rfl rfl
  ·
   rintro fr H ⟨A54, b54, c54, b55, A56, b56, c56, rfl, rfl, g54a, g54b, g56a, g56b, -⟩
   refine At.next ?_
   refine At.seq ?_
   refine At.draws 7 [] [.q false [0, 1, 2, 3, 4, 5, 6]] (by kernel_rfl) (by kernel_rfl) ?_
   refine At.wq (some 59) (Q_loadO (k := 203) rfl rfl Try.underlying50 rfl rfl rfl) ?_
   refine At.wp (some 60) (P_nilCheck rfl rfl) ?_
   refine At.wp (some 61) (P_fieldAddr0 (off := 4) rfl Try.underlying82 rfl sz3 rfl rfl) ?_
   refine At.wq (some 62) (Q_loadO (k := 2) rfl rfl Try.underlying3 rfl rfl rfl) ?_
   refine At.wp (some 63) (P_move rfl rfl) ?_
   refine At.wp (some 64) (P_len_sl rfl rfl ⟨_, Try.underlying27⟩ rfl) ?_
   refine At.wcV (some 65) [] (vs := [_]) rfl en26 rfl V0 (c_Need (n := ne) OG) ?_
   refine At.wqn ?_
   refine At.wt rfl ?_
   refine At.p (some 66) (P_add_i rfl rfl rfl (by omega)) ?_
   refine At.p (some 67) (P_nilCheck rfl rfl) ?_
   refine At.p (some 68) (P_fieldAddr0 (off := 4) rfl Try.underlying82 rfl sz3 rfl rfl) ?_
   refine At.s (S_store none (k := 2) rfl rfl rfl sz3 rfl rfl rfl LN ?_)
   refine At.nil ?_
   refine At.next ?_
   refine At.seq ?_
   refine At.region ?_
   refine At.s (S_store none (k := 206) rfl rfl rfl sz24 rfl rfl rfl LN ?_)
   refine At.nil ?_
   refine At.next ?_
   refine At.ret ?_
   refine At.giveM hX hD (.inl rfl) [0, 1, 2, 56, 54] (rows' := [_, _, _, _, _]) (ResV.cell1 (k := 206) rfl rfl Try.underlying24 rfl rfl rfl) rfl (by simp) (by simp [dH, rowD, rowS, BE.row]) ?_
   have hu : ((0 : Int) + ((ne + 81) / 64 : Nat)) = 1 := by omega
   exact ⟨A56, b56, c56, A54, b54, c54, g56a, g56b, ⟨g54a, g54b⟩, rfl, by rw [hu]; rfl⟩
 ·
  intro D w1 hX hD H' hr
  exact hr.elim


end Go.Proofs.Ytdingfinclcbgaa

