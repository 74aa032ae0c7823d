import Derived.Test.YtkdkpjnlknofeaaT
import Derived.Test.YtkdkpjnlknofeaaSE11
namespace Go.Proofs.Ytkdkpjnlknofeaa
set_option maxRecDepth 20000
set_option linter.unusedVariables false
set_option linter.unusedSimpArgs false
open Go.SE Go.RowKit
theorem c_Chunk (p : Option Addr) (len cap k : Nat) (hk : 0 < k) :
    Con Try.prog 33 [.slice p len cap, iV (k : Int)] [] (fun v rs => ∃ bs bn, v = .func (.func 45) #[] #[ptr bs 0, ptr bn 0] ∧ rs = [⟨true, bs, 0, 31, [.slice p len cap], 0⟩, ⟨true, bn, 0, 3, [iV (k : Int)], 0⟩]) := by
  refine Con.enter Try.func33 Try.ntmps33 (Nat.le_of_ble_eq_true rfl) rfl fun w => ?_
  refine At.seq ?_
  refine At.region ?_
  refine At.s (S_box (some 2) 0 rfl rfl rfl (fun b0 => ?_))
  refine At.s (S_box (some 3) 1 rfl rfl rfl (fun b1 => ?_))
  refine At.p (some 4) (P_assign rfl rfl) ?_
  refine At.nil ?_
  refine At.next ?_
  refine At.seq ?_
  refine At.seq ?_
  refine At.region ?_
  refine At.q (some 5) (Q_loadO (k := 1) rfl rfl Try.underlying3 rfl rfl rfl) ?_
  refine At.p (some 6) (P_cmp rfl rfl rfl rfl rfl rfl) ?_
  refine At.nil ?_
  refine At.next ?_
  refine At.cond rfl (fun h6 => by simp at h6; omega) (fun h6 => ?_)
  refine At.skip ?_
  refine At.next ?_
  refine At.seq ?_
  refine At.region ?_
  refine At.p (some 8) (P_makeFunc (vs := [_, _]) rfl rfl) ?_
  refine At.p (some 4) (P_assign rfl rfl) ?_
  refine At.nil ?_
  refine At.next ?_
  refine At.ret ?_
  refine At.give (.inl rfl) [0, 1] (rows' := [_, _]) (vs := [_]) rfl ⟨rfl, trivial⟩ rfl (by simp) (by simp) ⟨b0, b1, rfl, rfl⟩

theorem it_Chunk (p : Option Addr) (len cap k bs bn : Nat) (hk : 0 < k) (hl : len ≤ cap) (hc : len ≤ 4611686018427387904) (hkc : k ≤ 4611686018427387904) :
    Iter Try.prog 45 [ptr bs 0, ptr bn 0] (chunksV p len k) (C2 bs bn (.slice p len cap) (iV (k : Int))) := by
  refine Iter.enter2 Try.func45 Try.ntmps45 (by decide) rfl fun l J Jx hI W h0 => ?_
  have hX := hI.belowX
  refine At.seq ?_
  refine At.region ?_
  refine At.p (some 4) (P_assign rfl rfl) ?_
  refine At.nil ?_
  refine At.next ?_
  refine At.block ?_
  refine At.to [(0, _), (1, _), (2, _), (4, iV ((0 * k : Nat) : Int))] [(0, _), (1, _)] (AllL.cons_ (rfl) (AllL.cons_ (rfl) (AllL.cons_ (rfl) (AllL.cons_ (by rw [Nat.zero_mul]; rfl) trivial)))) (AllL.cons_ (rfl) (AllL.cons_ (rfl) trivial)) ?_
  refine Iter.loop (xs := chunksV p len k) (J := J) (fun i => frOf [(0, .func (.yield l) #[] #[]), (1, ptr bs 0), (2, ptr bn 0), (4, iV ((i * k : Nat) : Int))]) (fun i hi W hJ K hK => ?_) h0
  rw [chunksV_len] at hi
  refine At.seq ?_
  refine At.seq ?_
  refine At.region ?_
  refine At.p (some 6) (P_move rfl rfl) ?_
  refine At.q (some 7) (Q_loadO (k := 0) rfl rfl Try.underlying31 rfl rfl rfl) ?_
  refine At.p (some 8) (P_len_sl rfl rfl ⟨_, Try.underlying31⟩ rfl) ?_
  refine At.p (some 9) (P_cmp rfl rfl rfl rfl rfl rfl) ?_
  refine At.nil ?_
  refine At.next ?_
  refine At.cond rfl (fun h9 => ?_) (fun h9 => ?_)
  · -- cond 9 t
    have hlt : i * k < len := by simp at h9; omega
    have hlt2 := (chunksV_at (p := p) hk hlt).2
    refine At.skip ?_
    refine At.next ?_
    refine At.seq ?_
    refine At.block ?_
    refine At.seq ?_
    refine At.draws 5 [] [.q false [0, 1, 2, 3, 4]] (by kernel_rfl) (by kernel_rfl) ?_
    refine At.wq (some 13) (Q_loadO (k := 1) rfl rfl Try.underlying3 rfl rfl rfl) ?_
    refine At.wq (some 14) (Q_loadO (k := 0) rfl rfl Try.underlying31 rfl rfl rfl) ?_
    refine At.wp (some 15) (P_move rfl rfl) ?_
    refine At.wp (some 16) (P_slice_sl (l := i * k) rfl Try.underlying31 sz5 rfl ⟨_, _, rfl, by omega⟩ rfl rfl (by omega) (by omega) (by omega)) ?_
    refine At.wp (some 17) (P_len_sl rfl rfl ⟨_, Try.underlying31⟩ rfl) ?_
    refine At.wqn ?_
    refine At.wt rfl ?_
    refine At.p (some 18) (P_min2 rfl rfl rfl rfl) ?_
    refine At.p (some 5) (P_assign rfl rfl) ?_
    refine At.nil ?_
    refine At.next ?_
    refine At.seq ?_
    refine At.regionYk 10 (fun ⟨_, _, h⟩ => by obtain ⟨⟨_, h⟩, _⟩ := h; cases h) ?_
    refine At.p (some 19) (P_move rfl rfl) ?_
    refine At.q (some 20) (Q_loadO (k := 0) rfl rfl Try.underlying31 rfl rfl rfl) ?_
    refine At.p (some 21) (P_move rfl rfl) ?_
    refine At.p (some 22) (P_move rfl rfl) ?_
    refine At.p (some 23) (P_move rfl rfl) ?_
    refine At.p (some 24) (P_add_i rfl rfl rfl (by omega)) ?_
    refine At.p (some 25) (P_move rfl rfl) ?_
    refine At.p (some 26) (P_move rfl rfl) ?_
    refine At.p (some 27) (P_add_i rfl rfl rfl (by omega)) ?_
    refine At.p (some 28) (P_slice_sl (l := i * k) (h := i * k + min k (len - i * k)) (m := i * k + min k (len - i * k)) rfl Try.underlying31 sz5 rfl ⟨_, _, rfl, by omega⟩ ⟨_, _, rfl, by omega⟩ ⟨_, _, rfl, by omega⟩ (by omega) (by omega) (by omega)) ?_
    refine At.nil ?_
    refine At.next ?_
    refine At.yld2 hI hJ (some 29) rfl rfl rfl (chunk_cut hk hlt) (fun B hB => ?_) (fun B hB => ?_)
    ·
      refine At.listI (fun ⟨_, _, h⟩ => by obtain ⟨⟨_, h⟩, _⟩ := h; cases h) ?_
      refine At.p (some 30) (P_not rfl rfl) ?_
      refine At.nil ?_
      refine At.next ?_
      refine At.cond rfl (fun h => absurd (h.symm.trans rfl) (by decide)) (fun _ => ?_)
      refine At.skip ?_
      refine At.inb_n ?_
      refine At.next ?_
      refine At.region ?_
      refine At.p (some 10) (P_move rfl rfl) ?_
      refine At.q (some 11) (Q_loadO (k := 1) rfl rfl Try.underlying3 rfl rfl rfl) ?_
      refine At.p (some 12) (P_add_i rfl rfl rfl (by omega)) ?_
      refine At.p (some 4) (P_assign rfl rfl) ?_
      refine At.nil ?_
      refine At.next ?_
      refine At.to [(0, _), (1, _), (2, _), (4, iV (((i + 1) * k : Nat) : Int))] [(0, _), (1, _)] (AllL.cons_ (rfl) (AllL.cons_ (rfl) (AllL.cons_ (rfl) (AllL.cons_ (by rw [Nat.add_mul, Nat.one_mul]; rfl) trivial)))) (AllL.cons_ (rfl) (AllL.cons_ (rfl) trivial)) ?_
      exact hK (by rw [chunksV_len]; exact hlt2) B hB
    ·
      refine At.listI (fun ⟨_, _, h⟩ => by obtain ⟨⟨_, h⟩, _⟩ := h; cases h) ?_
      refine At.p (some 30) (P_not rfl rfl) ?_
      refine At.nil ?_
      refine At.next ?_
      refine At.cond rfl (fun _ => ?_) (fun h => absurd (h.symm.trans rfl) (by decide))
      refine At.ret ?_
      refine At.inb_r ?_
      refine At.thn_r ?_
      refine At.thn_r ?_
      refine At.inb_r ?_
      refine At.done (rs := []) (vs := []) rfl rfl trivial (fun w hw _ => ⟨⟨_, rfl⟩, Or.inr ?_⟩)
      exact hX _ _ hB hw.below
  · -- cond 9 f
    have hge : len ≤ i * k := by simp at h9; omega
    refine At.exit ?_
    refine At.thn_e ?_
    refine At.thn_e ?_
    refine At.inb_hit ?_
    obtain rfl : i = (chunksV p len k).length := by rw [chunksV_len]; exact Nat.le_antisymm hi (chunksV_end hk hge)
    exact At.itEnd hI hJ rfl
end Go.Proofs.Ytkdkpjnlknofeaa
