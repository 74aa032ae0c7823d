import Derived.Test.YtcjfkmhijfcciaaDoorRV1
namespace Go.Proofs.YtcjfkmhijfcciaaDoor
set_option maxRecDepth 20000
set_option linter.unusedVariables false
set_option linter.unusedSimpArgs false
open Go.SE Go.RowKit
attribute [local irreducible] macS sumS labS expS sealS openT openE openOk aTag streamS
attribute [local irreducible] dkS dvS nnS nnI hdR rsT rsB rsE roE roK roT roX roO kdOk trN trL trK inR
set_option maxHeartbeats 2000000 in
theorem c_RSeal {key : List (BitVec 8)} {iv : List (BitVec 8)} {seq : BitVec 64} {kd : Int} {txt : List (BitVec 8)} {Atxt : Option Addr} {ntxt ctxt btxt qtxt : Nat} {pad : Int} (hkey : key.length = 32) (hiv : iv.length = 12) (hntxt : txt.length = ntxt) (hAtxt : 0 < ntxt → Atxt = some ⟨btxt, qtxt, none⟩) (hl : ntxt ≤ 100000) :
  Con Tryd.prog 12 [.agg ([(key).map u8V, (iv).map u8V].flatten).toArray, u64V seq, iV kd, .slice Atxt ntxt ctxt, iV pad] [pRow btxt qtxt txt] (fun v rs => ∃ (A' : Option Addr) (b' c' : Nat), (0 < c' → A' = some ⟨b', 0, none⟩) ∧ (rsT key iv seq kd txt pad).length ≤ c' ∧ v = .tuple #[.slice A' (rsT key iv seq kd txt pad).length c', iV (rsE kd txt.length pad)] ∧ rs = [⟨true, b', 0, 5, (rsT key iv seq kd txt pad).map u8V, c' - (rsT key iv seq kd txt pad).length⟩]) := by
 refine Con.enter Tryd.func12 Tryd.ntmps12 (Nat.le_of_ble_eq_true rfl) rfl fun w => ?_
 refine At.seq ?_
 refine At.region ?_
 refine At.s (S_box (some 5) 5 (zs := [(key).map u8V, (iv).map u8V].flatten) rfl rfl rfl (fun b5 => ?_))
 refine At.p (some 10) (P_assign rfl rfl) ?_
 refine At.p (some 11) (P_assign rfl rfl) ?_
 refine At.nil ?_
 refine At.next ?_
 refine At.seq ?_
 refine At.seq ?_
 refine At.region ?_
 refine At.p (some 14) (P_move rfl rfl) ?_
 refine At.s (S_callV (some 15) [] [] (vs := [_]) rfl en22 rfl V0 (by simp) (c_kd (n := kd) ) (by rintro _ _ ⟨rfl, rfl⟩; rfl) ?_)
 rintro _ _ ⟨rfl, rfl⟩
 refine At.p (some 16) (P_not rfl rfl) ?_
 refine At.p (some 17) (P_move rfl rfl) ?_
 refine At.gsplit (t := 17) (want := false) rfl (fun g1 => ?_) (fun g1 => ?_)
 ·
  have eg1 : 20 ≤ kd ∧ kd ≤ 23 := kdOk_t (by first | (simp; done) | simpa using g1)
  refine At.gy (t := 17) rfl g1 rfl rfl ?_
  refine At.p (some 18) (P_move rfl rfl) ?_
  refine At.gy (t := 17) rfl g1 rfl rfl ?_
  refine At.p (some 19) (P_cmp rfl rfl rfl rfl rfl rfl) ?_
  refine At.p (some 20) (P_pick_f rfl rfl g1 rfl) ?_
  refine At.p (some 21) (P_move rfl rfl) ?_
  refine At.gsplit (t := 21) (want := false) rfl (fun g2 => ?_) (fun g2 => ?_)
  ·
   have eg2 : ¬ pad < 0 := of_decide_eq_false g2
   refine At.gy (t := 21) rfl g2 rfl rfl ?_
   refine At.p (some 22) (P_move rfl rfl) ?_
   refine At.gy (t := 21) rfl g2 rfl rfl ?_
   refine At.p (some 23) (P_cmp rfl rfl rfl rfl rfl rfl) ?_
   refine At.p (some 24) (P_pick_f rfl rfl g2 rfl) ?_
   refine At.p (some 25) (P_move rfl rfl) ?_
   refine At.gsplit (t := 25) (want := false) rfl (fun g3 => ?_) (fun g3 => ?_)
   ·
    have eg3 : ¬ pad > 257 := of_decide_eq_false g3
    refine At.gy (t := 25) rfl g3 rfl rfl ?_
    refine At.p (some 26) (P_move rfl rfl) ?_
    refine At.gy (t := 25) rfl g3 rfl rfl ?_
    refine At.p (some 27) (P_len_sl rfl rfl ⟨_, Tryd.underlying36⟩ rfl) ?_
    refine At.gy (t := 25) rfl g3 rfl rfl ?_
    refine At.p (some 28) (P_add_i rfl rfl rfl (by omega)) ?_
    refine At.gy (t := 25) rfl g3 rfl rfl ?_
    refine At.p (some 29) (P_move rfl rfl) ?_
    refine At.gy (t := 25) rfl g3 rfl rfl ?_
    refine At.p (some 30) (P_add_i rfl rfl rfl (by omega)) ?_
    refine At.gy (t := 25) rfl g3 rfl rfl ?_
    refine At.p (some 31) (P_cmp rfl rfl rfl rfl rfl rfl) ?_
    refine At.p (some 32) (P_pick_f rfl rfl g3 rfl) ?_
    refine At.nil ?_
    refine At.next ?_
    refine At.cond rfl (fun h32 => ?_) (fun h32 => ?_)
    · -- cond 32 t
     have e32 : ((((ntxt : Int) + 1)) + pad) > 257 := of_decide_eq_true h32
     refine At.seq ?_
     refine At.region ?_
     refine At.p (some 10) (P_assign rfl rfl) ?_
     refine At.p (some 11) (P_assign rfl rfl) ?_
     refine At.nil ?_
     refine At.next ?_
     refine At.ret ?_
     refine At.thn_r ?_
     have hv : rsOk kd txt.length pad = false := decide_eq_false (by first | omega | (simp at *; omega))
     refine At.empty 990 0 5 ?_
     have hq0 : ([] : List (BitVec 8)) = rsT key iv seq kd txt pad := (by rw [rsT_f hv])
     have hq1 : (1 : Int) = rsE kd txt.length pad := (by rw [rsE_f hv])
     refine At.give (.inl rfl) [990] (rows' := [_]) (vs := [_, _]) rfl ⟨rfl, rfl, trivial⟩ rfl (by simp) (by simp) ⟨none, 0, 0, (fun h => absurd h (Nat.lt_irrefl 0)), (by rw [← hq0]; exact Nat.le_refl _), (by first | (rw [hq0, hq1]; try rfl; done) | (rw [← hq0, ← hq1]; try rfl; done) | (simp only [hq0, hq1]; try rfl; done) | (simp only [← hq0, ← hq1]; try rfl; done) | rfl), (by first | (rw [hq0, hq1]; try rfl; done) | (rw [← hq0, ← hq1]; try rfl; done) | (simp only [hq0, hq1]; try rfl; done) | (simp only [← hq0, ← hq1]; try rfl; done) | rfl)⟩
    · -- cond 32 f
     have e32 : ¬ ((((ntxt : Int) + 1)) + pad) > 257 := of_decide_eq_false h32
     refine At.skip ?_
     refine At.next ?_
     refine At.seq ?_
     refine At.region ?_
     refine At.p (some 33) (P_move rfl rfl) ?_
     refine At.s (S_callV (some 34) [(0, _)] [34] (vs := [_]) rfl en23 rfl (VN (by simp) rfl View.all V0) (by simp) (c_BClone (b := txt) (nb := ntxt) (Ab := Atxt) (cb := ctxt) (bb := btxt) (qb := qtxt) LN hAtxt OG) (by rintro _ _ ⟨A34, b34, c34, g34a, g34b, rfl, rfl⟩; rfl) ?_)
     rintro _ _ ⟨A34, b34, c34, g34a, g34b, rfl, rfl⟩
     refine At.p (some 35) (P_move rfl rfl) ?_
     refine At.p (some 36) (P_conv_iw UK.u8 rfl Tryd.underlying3 Tryd.underlying5 rfl) ?_
     refine At.s (S_buildSliceV (some 37) 37 (([(BitVec.ofInt 8 kd)]).map u8V) rfl Tryd.underlying36 sz5 ze5 rfl rfl (by decide) (by decide) rfl rfl (fun b37 => ?_))
     refine At.s (S_appendM (some 38) 34 ((txt ++ [(BitVec.ofInt 8 kd)])) (f := u8V) (l := txt) (L := [(BitVec.ofInt 8 kd)]) (m := 1) rfl Tryd.underlying36 Tryd.underlying36 (.inr ⟨_, rfl⟩) sz5 by5 ze5 rfl rfl (fun h => ⟨g34a h, rfl⟩) LN OG (Src.all (k := 37) (l := [(BitVec.ofInt 8 kd)]) rfl (fun _ => rfl) (fun _ => ⟨rfl, rfl, rfl⟩) LN) (fun _ => rfl) OG OG rfl LN ?_)
     intro A38 b38 c38 g38a g38b
     refine At.p (some 12) (P_assign rfl rfl) ?_
     refine At.nil ?_
     refine At.next ?_
     refine At.seq ?_
     refine At.region ?_
     refine At.p (some 39) (P_move rfl rfl) ?_
     refine At.p (some 40) (P_move rfl rfl) ?_
     refine At.s (S_appendZ (some 41) 34 (((txt ++ [(BitVec.ofInt 8 kd)]) ++ List.replicate ((pad).toNat) 0#8)) (0#8) (f := u8V) (l := (txt ++ [(BitVec.ofInt 8 kd)])) (m := ((pad).toNat)) rfl Tryd.underlying36 Tryd.underlying3 sz5 by5 ze5 rfl rfl (fun h => ⟨g38a h, rfl⟩) LN OG rfl RO (fun _ => rfl) OG OG rfl ?_)
     intro A41 b41 c41 g41a g41b
     refine At.p (some 12) (P_assign rfl rfl) ?_
     refine At.nil ?_
     refine At.next ?_
     refine At.seq ?_
     have hxl : (((txt ++ [(BitVec.ofInt 8 kd)]) ++ List.replicate ((pad).toNat) 0#8)).length = ntxt + 1 + pad.toNat := by simp; omega
     refine At.region ?_
     refine At.p (some 42) (P_move rfl rfl) ?_
     refine At.p (some 43) (P_len_sl rfl rfl ⟨_, Tryd.underlying36⟩ rfl) ?_
     refine At.p (some 44) (P_add_i rfl rfl rfl (by omega)) ?_
     refine At.s (S_callV (some 45) [] [45] (vs := [_, _]) rfl en24 rfl V0 (by simp) (c_hd (t := 23) (n := ((((txt ++ [(BitVec.ofInt 8 kd)]) ++ List.replicate ((pad).toNat) 0#8).length : Int) + 16)) ) (by rintro _ _ ⟨A45, b45, c45, g45a, g45b, rfl, rfl⟩; rfl) ?_)
     rintro _ _ ⟨A45, b45, c45, g45a, g45b, rfl, rfl⟩
     have := hdR_len 23 ((((txt ++ [(BitVec.ofInt 8 kd)]) ++ List.replicate ((pad).toNat) 0#8).length : Int) + 16)
     refine At.p (some 13) (P_assign rfl rfl) ?_
     refine At.nil ?_
     refine At.next ?_
     refine At.seq ?_
     refine At.draws 9 [] [.q false [0, 1, 2, 3, 4, 5, 6, 7], .e false 8] (by kernel_rfl) (by kernel_rfl) ?_
     refine At.wp (some 46) (P_move rfl rfl) ?_
     refine At.wp (some 47) (P_fieldAddr0 (off := 0) rfl Tryd.underlying41 rfl sz22 rfl rfl) ?_
     refine At.wq (some 48) (Q_loadN (k := 5) (j := 0) (cs := (key).map u8V) rfl rfl Tryd.underlying22 rfl sz22 rfl rfl rfl (seg_at (i := 0) rfl LN LN) LN) ?_
     refine At.wq (some 49) (Q_loadA (k := 5) rfl rfl Tryd.underlying41 rfl sz41 LN rfl) ?_
     refine At.wp (some 50) (P_move rfl rfl) ?_
     refine At.wcV (some 51) [] (vs := [_, _]) rfl en26 rfl V0 (c_Non (key := key) (iv := iv) (seq := seq) LN LN) ?_
     have := nnS_len iv seq
     refine At.wp (some 52) (P_move rfl rfl) ?_
     refine At.wp (some 53) (P_move rfl rfl) ?_
     refine At.wqn ?_
     refine At.we ?_
     refine SStep.up (S_callV (some 54) [(34, _), (45, _)] [54] (vs := [_, _, _, _]) rfl en25 rfl (VN (by simp) rfl View.all (VN (by simp) rfl View.all V0)) (by simp) (c_SealN (key := key) (nonce := (nnS iv seq)) (b := ((txt ++ [(BitVec.ofInt 8 kd)]) ++ List.replicate ((pad).toNat) 0#8)) (more := (hdR 23 ((((txt ++ [(BitVec.ofInt 8 kd)]) ++ List.replicate ((pad).toNat) 0#8).length : Int) + 16))) (nb := (((txt ++ [(BitVec.ofInt 8 kd)]) ++ List.replicate ((pad).toNat) 0#8).length)) (nm := ((hdR 23 ((((txt ++ [(BitVec.ofInt 8 kd)]) ++ List.replicate ((pad).toNat) 0#8).length : Int) + 16)).length)) (A := A41) (A2 := A45) (bq := b41) (q := 0) (br := b45) (r := 0) LN LN LN LN (fun h => g41a (by omega)) (fun h => g45a (by omega)) OG OG) (by rintro _ _ ⟨A54, b54, c54, g54a, g54b, rfl, rfl⟩; rfl) ?_)
     rintro _ _ ⟨A54, b54, c54, g54a, g54b, rfl, rfl⟩
     have := sealS_len key (nnS iv seq) ((txt ++ [(BitVec.ofInt 8 kd)]) ++ List.replicate ((pad).toNat) 0#8) (hdR 23 ((((txt ++ [(BitVec.ofInt 8 kd)]) ++ List.replicate ((pad).toNat) 0#8).length : Int) + 16))
     refine At.wt rfl ?_
     refine At.s (S_appendM (some 55) 45 ((hdR 23 ((((txt ++ [(BitVec.ofInt 8 kd)]) ++ List.replicate ((pad).toNat) 0#8).length : Int) + 16) ++ sealS key (nnS iv seq) ((txt ++ [(BitVec.ofInt 8 kd)]) ++ List.replicate ((pad).toNat) 0#8) (hdR 23 ((((txt ++ [(BitVec.ofInt 8 kd)]) ++ List.replicate ((pad).toNat) 0#8).length : Int) + 16)))) (f := u8V) (l := (hdR 23 ((((txt ++ [(BitVec.ofInt 8 kd)]) ++ List.replicate ((pad).toNat) 0#8).length : Int) + 16))) (L := (sealS key (nnS iv seq) ((txt ++ [(BitVec.ofInt 8 kd)]) ++ List.replicate ((pad).toNat) 0#8) (hdR 23 ((((txt ++ [(BitVec.ofInt 8 kd)]) ++ List.replicate ((pad).toNat) 0#8).length : Int) + 16)))) (m := ((sealS key (nnS iv seq) ((txt ++ [(BitVec.ofInt 8 kd)]) ++ List.replicate ((pad).toNat) 0#8) (hdR 23 ((((txt ++ [(BitVec.ofInt 8 kd)]) ++ List.replicate ((pad).toNat) 0#8).length : Int) + 16))).length)) rfl Tryd.underlying36 Tryd.underlying36 (.inr ⟨_, rfl⟩) sz5 by5 ze5 rfl rfl (fun h => ⟨g45a h, rfl⟩) LN OG (Src.all (k := 54) (l := (sealS key (nnS iv seq) ((txt ++ [(BitVec.ofInt 8 kd)]) ++ List.replicate ((pad).toNat) 0#8) (hdR 23 ((((txt ++ [(BitVec.ofInt 8 kd)]) ++ List.replicate ((pad).toNat) 0#8).length : Int) + 16)))) rfl (fun h => g54a (by omega)) (fun _ => ⟨rfl, rfl, rfl⟩) LN) (fun _ => rfl) OG OG rfl LN ?_)
     intro A55 b55 c55 g55a g55b
     refine At.p (some 10) (P_assign rfl rfl) ?_
     refine At.p (some 11) (P_assign rfl rfl) ?_
     refine At.nil ?_
     refine At.next ?_
     refine At.ret ?_
     have hv : rsOk kd txt.length pad = true := decide_eq_true (by first | omega | (simp at *; omega))
     have hq0 : (hdR 23 ((((txt ++ [(BitVec.ofInt 8 kd)]) ++ List.replicate ((pad).toNat) 0#8).length : Int) + 16) ++ sealS key (nnS iv seq) ((txt ++ [(BitVec.ofInt 8 kd)]) ++ List.replicate ((pad).toNat) 0#8) (hdR 23 ((((txt ++ [(BitVec.ofInt 8 kd)]) ++ List.replicate ((pad).toNat) 0#8).length : Int) + 16))) = rsT key iv seq kd txt pad := (by rw [rsT_t hv, rsB, inR])
     have hq1 : (0 : Int) = rsE kd txt.length pad := (by rw [rsE_t hv])
     refine At.give (.inl rfl) [45] (rows' := [_]) (vs := [_, _]) rfl ⟨rfl, rfl, trivial⟩ rfl (by simp) (by simp) ⟨A55, b55, c55, g55a, (by rw [← hq0]; first | omega | (simp; done) | (simp <;> omega) | exact Nat.le_refl _), (by first | (rw [hq0, hq1]; try rfl; done) | (rw [← hq0, ← hq1]; try rfl; done) | (simp only [hq0, hq1]; try rfl; done) | (simp only [← hq0, ← hq1]; try rfl; done) | rfl), (by first | (rw [hq0, hq1]; try rfl; done) | (rw [← hq0, ← hq1]; try rfl; done) | (simp only [hq0, hq1]; try rfl; done) | (simp only [← hq0, ← hq1]; try rfl; done) | rfl)⟩
   ·
    have eg3 : pad > 257 := of_decide_eq_true g3
    refine At.gn (some 26) (t := 25) rfl g3 rfl rfl ?_
    refine At.gn (some 27) (t := 25) rfl g3 rfl rfl ?_
    refine At.gn (some 28) (t := 25) rfl g3 rfl rfl ?_
    refine At.gn (some 29) (t := 25) rfl g3 rfl rfl ?_
    refine At.gn (some 30) (t := 25) rfl g3 rfl rfl ?_
    refine At.gn (some 31) (t := 25) rfl g3 rfl rfl ?_
    refine At.p (some 32) (P_pick_t rfl rfl g3 rfl) ?_
    refine At.nil ?_
    refine At.next ?_
    refine At.cond rfl (fun _ => ?_) (fun h => absurd (h.symm.trans rfl) (by decide))
    refine At.seq ?_
    refine At.region ?_
    refine At.p (some 10) (P_assign rfl rfl) ?_
    refine At.p (some 11) (P_assign rfl rfl) ?_
    refine At.nil ?_
    refine At.next ?_
    refine At.ret ?_
    refine At.thn_r ?_
    have hv : rsOk kd txt.length pad = false := decide_eq_false (by first | omega | (simp at *; omega))
    refine At.empty 990 0 5 ?_
    have hq0 : ([] : List (BitVec 8)) = rsT key iv seq kd txt pad := (by rw [rsT_f hv])
    have hq1 : (1 : Int) = rsE kd txt.length pad := (by rw [rsE_f hv])
    refine At.give (.inl rfl) [990] (rows' := [_]) (vs := [_, _]) rfl ⟨rfl, rfl, trivial⟩ rfl (by simp) (by simp) ⟨none, 0, 0, (fun h => absurd h (Nat.lt_irrefl 0)), (by rw [← hq0]; exact Nat.le_refl _), (by first | (rw [hq0, hq1]; try rfl; done) | (rw [← hq0, ← hq1]; try rfl; done) | (simp only [hq0, hq1]; try rfl; done) | (simp only [← hq0, ← hq1]; try rfl; done) | rfl), (by first | (rw [hq0, hq1]; try rfl; done) | (rw [← hq0, ← hq1]; try rfl; done) | (simp only [hq0, hq1]; try rfl; done) | (simp only [← hq0, ← hq1]; try rfl; done) | rfl)⟩
  ·
   have eg2 : pad < 0 := of_decide_eq_true g2
   refine At.gn (some 22) (t := 21) rfl g2 rfl rfl ?_
   refine At.gn (some 23) (t := 21) rfl g2 rfl rfl ?_
   refine At.p (some 24) (P_pick_t rfl rfl g2 rfl) ?_
   refine At.p (some 25) (P_move rfl rfl) ?_
   refine At.gn (some 26) (t := 25) rfl rfl rfl rfl ?_
   refine At.gn (some 27) (t := 25) rfl rfl rfl rfl ?_
   refine At.gn (some 28) (t := 25) rfl rfl rfl rfl ?_
   refine At.gn (some 29) (t := 25) rfl rfl rfl rfl ?_
   refine At.gn (some 30) (t := 25) rfl rfl rfl rfl ?_
   refine At.gn (some 31) (t := 25) rfl rfl rfl rfl ?_
   refine At.p (some 32) (P_pick_t rfl rfl rfl rfl) ?_
   refine At.nil ?_
   refine At.next ?_
   refine At.cond rfl (fun _ => ?_) (fun h => absurd (h.symm.trans rfl) (by decide))
   refine At.seq ?_
   refine At.region ?_
   refine At.p (some 10) (P_assign rfl rfl) ?_
   refine At.p (some 11) (P_assign rfl rfl) ?_
   refine At.nil ?_
   refine At.next ?_
   refine At.ret ?_
   refine At.thn_r ?_
   have hv : rsOk kd txt.length pad = false := decide_eq_false (by first | omega | (simp at *; omega))
   refine At.empty 990 0 5 ?_
   have hq0 : ([] : List (BitVec 8)) = rsT key iv seq kd txt pad := (by rw [rsT_f hv])
   have hq1 : (1 : Int) = rsE kd txt.length pad := (by rw [rsE_f hv])
   refine At.give (.inl rfl) [990] (rows' := [_]) (vs := [_, _]) rfl ⟨rfl, rfl, trivial⟩ rfl (by simp) (by simp) ⟨none, 0, 0, (fun h => absurd h (Nat.lt_irrefl 0)), (by rw [← hq0]; exact Nat.le_refl _), (by first | (rw [hq0, hq1]; try rfl; done) | (rw [← hq0, ← hq1]; try rfl; done) | (simp only [hq0, hq1]; try rfl; done) | (simp only [← hq0, ← hq1]; try rfl; done) | rfl), (by first | (rw [hq0, hq1]; try rfl; done) | (rw [← hq0, ← hq1]; try rfl; done) | (simp only [hq0, hq1]; try rfl; done) | (simp only [← hq0, ← hq1]; try rfl; done) | rfl)⟩
 ·
  have eg1 : ¬ (20 ≤ kd ∧ kd ≤ 23) := kdOk_f (by first | (simp; done) | simpa using g1)
  refine At.gn (some 18) (t := 17) rfl g1 rfl rfl ?_
  refine At.gn (some 19) (t := 17) rfl g1 rfl rfl ?_
  refine At.p (some 20) (P_pick_t rfl rfl g1 rfl) ?_
  refine At.p (some 21) (P_move rfl rfl) ?_
  refine At.gn (some 22) (t := 21) rfl rfl rfl rfl ?_
  refine At.gn (some 23) (t := 21) rfl rfl rfl rfl ?_
  refine At.p (some 24) (P_pick_t rfl rfl rfl rfl) ?_
  refine At.p (some 25) (P_move rfl rfl) ?_
  refine At.gn (some 26) (t := 25) rfl rfl rfl rfl ?_
  refine At.gn (some 27) (t := 25) rfl rfl rfl rfl ?_
  refine At.gn (some 28) (t := 25) rfl rfl rfl rfl ?_
  refine At.gn (some 29) (t := 25) rfl rfl rfl rfl ?_
  refine At.gn (some 30) (t := 25) rfl rfl rfl rfl ?_
  refine At.gn (some 31) (t := 25) rfl rfl rfl rfl ?_
  refine At.p (some 32) (P_pick_t rfl rfl rfl rfl) ?_
  refine At.nil ?_
  refine At.next ?_
  refine At.cond rfl (fun _ => ?_) (fun h => absurd (h.symm.trans rfl) (by decide))
  refine At.seq ?_
  refine At.region ?_
  refine At.p (some 10) (P_assign rfl rfl) ?_
  refine At.p (some 11) (P_assign rfl rfl) ?_
  refine At.nil ?_
  refine At.next ?_
  refine At.ret ?_
  refine At.thn_r ?_
  have hv : rsOk kd txt.length pad = false := decide_eq_false (by first | omega | (simp at *; omega))
  refine At.empty 990 0 5 ?_
  have hq0 : ([] : List (BitVec 8)) = rsT key iv seq kd txt pad := (by rw [rsT_f hv])
  have hq1 : (1 : Int) = rsE kd txt.length pad := (by rw [rsE_f hv])
  refine At.give (.inl rfl) [990] (rows' := [_]) (vs := [_, _]) rfl ⟨rfl, rfl, trivial⟩ rfl (by simp) (by simp) ⟨none, 0, 0, (fun h => absurd h (Nat.lt_irrefl 0)), (by rw [← hq0]; exact Nat.le_refl _), (by first | (rw [hq0, hq1]; try rfl; done) | (rw [← hq0, ← hq1]; try rfl; done) | (simp only [hq0, hq1]; try rfl; done) | (simp only [← hq0, ← hq1]; try rfl; done) | rfl), (by first | (rw [hq0, hq1]; try rfl; done) | (rw [← hq0, ← hq1]; try rfl; done) | (simp only [hq0, hq1]; try rfl; done) | (simp only [← hq0, ← hq1]; try rfl; done) | rfl)⟩



set_option maxHeartbeats 2000000 in
theorem c_tRB {b : List (BitVec 8)} {Ab : Option Addr} {nb cb bb qb : Nat} (hnb : b.length = nb) (hAb : 0 < nb → Ab = some ⟨bb, qb, none⟩) (hcb : nb ≤ cb) (hl : nb ≤ 1000000) :
    Con Tryd.prog 36 [.slice Ab nb cb, u8V 0#8] [pRow bb qb b] (fun v rs => ∃ (A' : Option Addr) (c' : Nat), (0 < trN b nb → A' = some ⟨bb, qb, none⟩) ∧ trN b nb ≤ c' ∧ v = .slice A' (trN b nb) c' ∧ rs = []) := by
  refine Con.enter Tryd.func36 Tryd.ntmps36 (Nat.le_of_ble_eq_true rfl) rfl fun w => ?_
  refine At.seq ?_
  refine At.region ?_
  refine At.p (some 4) (P_assign rfl rfl) ?_
  refine At.nil ?_
  refine At.next ?_
  refine At.seq ?_
  refine At.block ?_
  refine At.loopx (I := fun m fr H => ∃ (n3 : Nat) (A3 : Option Addr), m = 2 * n3 ∧ fr = frOf [(0, .slice A3 n3 cb), (1, u8V (0#8)), (4, .slice none 0 0)] ∧ H = hOf [(0, pRow bb qb b)] ∧ (n3 ≤ nb) ∧ (0 < n3 → A3 = some ⟨bb, qb, none⟩) ∧ (trN b nb = trN b n3)) ?_ ?_
  ·
    intro Kc0 hKc0
    refine At.to [(0, .slice Ab nb cb), (1, _), (4, _)] [(0, _)] (AllL.cons_ (rfl) (AllL.cons_ (rfl) (AllL.cons_ (rfl) trivial))) (AllL.cons_ (rfl) trivial) ?_
    exact hKc0 _ _ _ ⟨nb, Ab, rfl, rfl, rfl, (by omega), (fun h => hAb (by omega)), rfl⟩
  ·
    rintro m fr H ⟨n3, A3, rfl, rfl, rfl, hk, hA3, hz⟩ Kc0 hKc0
    refine At.seq ?_
    refine At.seq ?_
    refine At.region ?_
    refine At.p (some 5) (P_move rfl rfl) ?_
    refine At.p (some 6) (P_len_sl rfl rfl ⟨_, Tryd.underlying36⟩ rfl) ?_
    refine At.p (some 7) (P_cmp rfl rfl rfl rfl rfl rfl) ?_
    refine At.p (some 8) (P_move rfl rfl) ?_
    refine At.gsplit (t := 8) (want := true) rfl (fun g1 => ?_) (fun g1 => ?_)
    ·
      have eg1 : (n3 : Int) > 0 := of_decide_eq_true g1
      refine At.gy (t := 8) rfl g1 rfl rfl ?_
      refine At.p (some 9) (P_move rfl rfl) ?_
      refine At.gy (t := 8) rfl g1 rfl rfl ?_
      refine At.p (some 10) (P_move rfl rfl) ?_
      refine At.gy (t := 8) rfl g1 rfl rfl ?_
      refine At.p (some 11) (P_len_sl rfl rfl ⟨_, Tryd.underlying36⟩ rfl) ?_
      refine At.gy (t := 8) rfl g1 rfl rfl ?_
      refine At.p (some 12) (P_sub_i rfl rfl rfl (by omega)) ?_
      refine At.gy (t := 8) rfl g1 rfl rfl ?_
      refine At.p (some 13) (P_indexAddr_sl1 (b := bb) (m := qb) (j := (n3 - 1)) rfl Tryd.underlying36 sz5 rfl (hA3 OG) rfl RO OG) ?_
      refine At.gy (t := 8) rfl g1 rfl rfl ?_
      refine At.q (some 14) (Q_loadR (k := 0) (f := u8V) (l := b) (j := (n3 - 1)) (0#8) rfl rfl Tryd.underlying5 rfl rfl rfl OG) ?_
      refine At.gy (t := 8) rfl g1 rfl rfl ?_
      refine At.p (some 15) (P_move rfl rfl) ?_
      refine At.gy (t := 8) rfl g1 rfl rfl ?_
      refine At.p (some 16) (P_eql_w (b := 0#8) (n := 8) rfl rfl rfl) ?_
      refine At.p (some 17) (P_pick_t rfl rfl g1 rfl) ?_
      refine At.nil ?_
      refine At.next ?_
      refine At.cond rfl (fun h17 => ?_) (fun h17 => ?_)
      · -- cond 17 t
        have e17 : (b.getD (n3 - 1) 0#8) = (0#8) := eq_of_beq h17
        refine At.skip ?_
        refine At.next ?_
        refine At.block ?_
        refine At.region ?_
        refine At.p (some 18) (P_move rfl rfl) ?_
        refine At.p (some 19) (P_move rfl rfl) ?_
        refine At.p (some 20) (P_len_sl rfl rfl ⟨_, Tryd.underlying36⟩ rfl) ?_
        refine At.p (some 21) (P_sub_i rfl rfl rfl (by omega)) ?_
        refine At.p (some 22) (P_slice_sl (l := 0) (h := (n3 - 1)) (m := cb) rfl Tryd.underlying36 sz5 rfl rfl ⟨_, _, rfl, by omega⟩ rfl DO DO DO) ?_
        refine At.p (some 0) (P_assign rfl rfl) ?_
        refine At.nil ?_
        refine At.inb_n ?_
        refine At.next ?_
        refine At.to [(0, .slice (cut A3 0 cb 1) (n3 - 1) cb), (1, _), (4, _)] [(0, _)] (AllL.cons_ (rfl) (AllL.cons_ (rfl) (AllL.cons_ (rfl) trivial))) (AllL.cons_ (rfl) trivial) ?_
        exact hKc0 _ _ _ (by omega) ⟨n3 - 1, cut A3 0 cb 1, rfl, rfl, rfl, (by omega), (fun h => cut_zero (hA3 (by omega))), (by rw [hz]; obtain ⟨p, rfl⟩ : ∃ p, n3 = p + 1 := ⟨n3 - 1, by omega⟩; exact trN_z e17)⟩
      · -- cond 17 f
        have e17 : (b.getD (n3 - 1) 0#8) ≠ (0#8) := beq_eq_false_iff_ne.1 h17
        refine At.exit ?_
        refine At.thn_e ?_
        refine At.thn_e ?_
        refine At.inb_hit ?_
        refine At.next ?_
        refine At.seq ?_
        refine At.region ?_
        refine At.p (some 23) (P_move rfl rfl) ?_
        refine At.p (some 4) (P_assign rfl rfl) ?_
        refine At.nil ?_
        refine At.next ?_
        refine At.ret ?_
        have hq : trN b nb = n3 := by
          rw [hz]
          first
          | (have h0 : n3 = 0 := by omega
             rw [h0]; exact trN_0 b)
          | (obtain ⟨p, rfl⟩ : ∃ p, n3 = p + 1 := ⟨n3 - 1, by omega⟩
             exact trN_n e17)
        refine At.give (.inl rfl) [] (rows' := []) (vs := [_]) rfl ⟨rfl, trivial⟩ rfl (by simp) (by simp) ⟨A3, cb, fun h => hA3 (by omega), by omega, by rw [hq]; rfl, rfl⟩
    ·
      have eg1 : ¬ (n3 : Int) > 0 := of_decide_eq_false g1
      refine At.gn (some 9) (t := 8) rfl g1 rfl rfl ?_
      refine At.gn (some 10) (t := 8) rfl g1 rfl rfl ?_
      refine At.gn (some 11) (t := 8) rfl g1 rfl rfl ?_
      refine At.gn (some 12) (t := 8) rfl g1 rfl rfl ?_
      refine At.gn (some 13) (t := 8) rfl g1 rfl rfl ?_
      refine At.gn (some 14) (t := 8) rfl g1 rfl rfl ?_
      refine At.gn (some 15) (t := 8) rfl g1 rfl rfl ?_
      refine At.gn (some 16) (t := 8) rfl g1 rfl rfl ?_
      refine At.p (some 17) (P_pick_f rfl rfl g1 rfl) ?_
      refine At.nil ?_
      refine At.next ?_
      refine At.cond rfl (fun h => absurd (h.symm.trans rfl) (by decide)) (fun _ => ?_)
      refine At.exit ?_
      refine At.thn_e ?_
      refine At.thn_e ?_
      refine At.inb_hit ?_
      refine At.next ?_
      refine At.seq ?_
      refine At.region ?_
      refine At.p (some 23) (P_move rfl rfl) ?_
      refine At.p (some 4) (P_assign rfl rfl) ?_
      refine At.nil ?_
      refine At.next ?_
      refine At.ret ?_
      have hq : trN b nb = n3 := by
        rw [hz]
        first
        | (have h0 : n3 = 0 := by omega
           rw [h0]; exact trN_0 b)
        | (obtain ⟨p, rfl⟩ : ∃ p, n3 = p + 1 := ⟨n3 - 1, by omega⟩
           exact trN_n e17)
      refine At.give (.inl rfl) [] (rows' := []) (vs := [_]) rfl ⟨rfl, trivial⟩ rfl (by simp) (by simp) ⟨A3, cb, fun h => hA3 (by omega), by omega, by rw [hq]; rfl, rfl⟩

set_option maxHeartbeats 2000000 in
theorem c_Trim {b : List (BitVec 8)} {Ab : Option Addr} {nb cb bb qb : Nat} (hnb : b.length = nb) (hAb : 0 < nb → Ab = some ⟨bb, qb, none⟩) (hcb : nb ≤ cb) (hl : nb ≤ 1000000) :
  Con Tryd.prog 28 [.slice Ab nb cb, strV [0#8]] [pRow bb qb b] (fun v rs => ∃ (A' : Option Addr) (c' : Nat), (0 < trN b nb → A' = some ⟨bb, qb, none⟩) ∧ trN b nb ≤ c' ∧ v = .slice A' (trN b nb) c' ∧ rs = []) := by
 refine Con.enter Tryd.func28 Tryd.ntmps28 (Nat.le_of_ble_eq_true rfl) rfl fun w => ?_
 refine At.seq ?_
 refine At.region ?_
 refine At.p (some 4) (P_assign rfl rfl) ?_
 refine At.nil ?_
 refine At.next ?_
 refine At.seq ?_
 refine At.seq ?_
 refine At.region ?_
 refine At.p (some 7) (P_move rfl rfl) ?_
 refine At.p (some 8) (P_len_sl rfl rfl ⟨_, Tryd.underlying36⟩ rfl) ?_
 refine At.p (some 9) (P_cmp rfl rfl rfl rfl rfl rfl) ?_
 refine At.p (some 10) (P_move rfl rfl) ?_
 refine At.gsplit (t := 10) (want := false) rfl (fun g1 => ?_) (fun g1 => ?_)
 ·
  have eg1 : (nb : Int) ≠ 0 := beq_eq_false_iff_ne.1 g1
  refine At.gy (t := 10) rfl g1 rfl rfl ?_
  refine At.p (some 11) (P_move rfl rfl) ?_
  refine At.gy (t := 10) rfl g1 rfl rfl ?_
  refine At.p (some 12) (P_eql_str (a := [0#8]) (b := []) rfl rfl rfl) ?_
  refine At.p (some 13) (P_pick_f rfl rfl g1 rfl) ?_
  refine At.nil ?_
  refine At.next ?_
  refine At.cond rfl (fun h13 => by simp at h13) (fun h13 => ?_)
  have e13 : ¬ [0#8] = [] := of_decide_eq_false h13
  refine At.skip ?_
  refine At.next ?_
  refine At.seq ?_
  refine At.seq ?_
  refine At.region ?_
  refine At.p (some 15) (P_move rfl rfl) ?_
  refine At.p (some 16) (P_len_strV rfl rfl Tryd.underlying9 rfl) ?_
  refine At.p (some 17) (P_cmp rfl rfl rfl rfl rfl rfl) ?_
  refine At.p (some 18) (P_move rfl rfl) ?_
  refine At.gy (t := 18) rfl (by decide) rfl rfl ?_
  refine At.p (some 19) (P_move rfl rfl) ?_
  refine At.gy (t := 18) rfl (by decide) rfl rfl ?_
  refine At.p (some 20) (P_index_str (l := [0#8]) (j := 0) rfl Tryd.underlying9 rfl rfl rfl LN) ?_
  refine At.gy (t := 18) rfl (by decide) rfl rfl ?_
  refine At.p (some 21) (P_lss_w (n := 8) (b := 128#8) rfl rfl rfl) ?_
  refine At.p (some 22) (P_pick_t rfl rfl (by decide) rfl) ?_
  refine At.nil ?_
  refine At.next ?_
  refine At.cond rfl (fun h22 => ?_) (fun h22 => by simp at h22)
  have e22 : ([0#8].getD 0 0#8).toNat < (128#8).toNat := of_decide_eq_true h22
  refine At.seq ?_
  refine At.region ?_
  refine At.p (some 23) (P_move rfl rfl) ?_
  refine At.p (some 24) (P_move rfl rfl) ?_
  refine At.p (some 25) (P_index_str (l := [0#8]) (j := 0) rfl Tryd.underlying9 rfl rfl rfl LN) ?_
  refine At.s (S_callV (some 26) [(0, _)] [] (vs := [_, _]) rfl en36 rfl (VN (by simp) rfl View.all V0) (by simp) (c_tRB (b := b) (nb := nb) (Ab := Ab) (cb := cb) (bb := bb) (qb := qb) LN hAb OG OG) (by rintro _ _ ⟨A26, c26, g26a, g26b, rfl, rfl⟩; rfl) ?_)
  rintro _ _ ⟨A26, c26, g26a, g26b, rfl, rfl⟩
  refine At.p (some 4) (P_assign rfl rfl) ?_
  refine At.nil ?_
  refine At.next ?_
  refine At.ret ?_
  refine At.thn_r ?_
  refine At.give (.inl rfl) [] (rows' := []) (vs := [_]) rfl ⟨rfl, trivial⟩ rfl (by simp) (by simp) ⟨A26, c26, g26a, g26b, rfl, rfl⟩
 ·
  have eg1 : (nb : Int) = 0 := eq_of_beq g1
  refine At.gn (some 11) (t := 10) rfl g1 rfl rfl ?_
  refine At.gn (some 12) (t := 10) rfl g1 rfl rfl ?_
  refine At.p (some 13) (P_pick_t rfl rfl g1 rfl) ?_
  refine At.nil ?_
  refine At.next ?_
  refine At.cond rfl (fun _ => ?_) (fun h => absurd (h.symm.trans rfl) (by decide))
  refine At.seq ?_
  refine At.region ?_
  refine At.p (some 14) (P_move rfl rfl) ?_
  refine At.p (some 4) (P_assign rfl rfl) ?_
  refine At.nil ?_
  refine At.next ?_
  refine At.ret ?_
  refine At.thn_r ?_
  obtain rfl : nb = 0 := by omega
  have h0 := trN_0 b
  refine At.give (.inl rfl) [] (rows' := []) (vs := [_]) rfl ⟨rfl, trivial⟩ rfl (by simp) (by simp) ⟨Ab, cb, fun h => absurd h (by rw [h0]; exact Nat.lt_irrefl 0), by rw [h0]; exact Nat.zero_le _, by rw [h0]; rfl, rfl⟩

set_option maxHeartbeats 2000000 in
theorem c_ROpen {key : List (BitVec 8)} {iv : List (BitVec 8)} {seq : BitVec 64} {b : List (BitVec 8)} {Ab : Option Addr} {nb cb bb qb : Nat} (hkey : key.length = 32) (hiv : iv.length = 12) (hnb : b.length = nb) (hAb : 0 < nb → Ab = some ⟨bb, qb, none⟩) (hcb : nb ≤ cb) (hl : nb ≤ 1000000) :
  Con Tryd.prog 14 [.agg ([(key).map u8V, (iv).map u8V].flatten).toArray, u64V seq, .slice Ab nb cb] [pRow bb qb b] (fun v rs => ∃ (A' : Option Addr) (b' c' r' : Nat) (m' : List (BitVec 8)), (0 < (roT key iv seq b).length → A' = some ⟨b', 0, none⟩) ∧ (roT key iv seq b).length ≤ c' ∧ v = .tuple #[iV (roK key iv seq b), .slice A' (roT key iv seq b).length c', iV (roE key iv seq b)] ∧ rs = [⟨true, b', 0, 5, ((roT key iv seq b) ++ m').map u8V, r'⟩]) := by
 refine Con.enter Tryd.func14 Tryd.ntmps14 (Nat.le_of_ble_eq_true rfl) rfl fun w => ?_
 refine At.seq ?_
 refine At.region ?_
 refine At.s (S_box (some 3) 3 (zs := [(key).map u8V, (iv).map u8V].flatten) rfl rfl rfl (fun b3 => ?_))
 refine At.p (some 6) (P_assign rfl rfl) ?_
 refine At.p (some 7) (P_assign rfl rfl) ?_
 refine At.p (some 8) (P_assign rfl rfl) ?_
 refine At.nil ?_
 refine At.next ?_
 refine At.seq ?_
 refine At.seq ?_
 refine At.region ?_
 refine At.p (some 12) (P_move rfl rfl) ?_
 refine At.p (some 13) (P_len_sl rfl rfl ⟨_, Tryd.underlying36⟩ rfl) ?_
 refine At.p (some 14) (P_cmp rfl rfl rfl rfl rfl rfl) ?_
 refine At.nil ?_
 refine At.next ?_
 refine At.cond rfl (fun h14 => ?_) (fun h14 => ?_)
 · -- cond 14 t
  have e14 : (nb : Int) > 273 := of_decide_eq_true h14
  refine At.seq ?_
  refine At.region ?_
  refine At.p (some 6) (P_assign rfl rfl) ?_
  refine At.p (some 7) (P_assign rfl rfl) ?_
  refine At.p (some 8) (P_assign rfl rfl) ?_
  refine At.nil ?_
  refine At.next ?_
  refine At.ret ?_
  refine At.thn_r ?_
  obtain ⟨z0, z1, z2⟩ := ro_1 (key := key) (iv := iv) (seq := seq) (b := b) (by omega)
  refine At.empty 991 0 5 ?_
  refine At.give (.inl rfl) [991] (rows' := [_]) (vs := [_, _, _]) rfl ⟨rfl, rfl, rfl, trivial⟩ rfl (by simp) (by simp) ⟨none, 0, 0, 0, [], fun h => absurd h (by rw [z2]; exact Nat.lt_irrefl 0), by rw [z2]; exact Nat.le_refl 0, by rw [z0, z1, z2]; rfl, by rw [z2]; rfl⟩
 · -- cond 14 f
  have e14 : ¬ (nb : Int) > 273 := of_decide_eq_false h14
  refine At.skip ?_
  refine At.next ?_
  refine At.seq ?_
  refine At.draws 14 [] [.q false [0, 1, 2, 3, 4, 5, 6, 7], .e false 8, .e false 9, .q false [10, 11, 12, 13]] (by kernel_rfl) (by kernel_rfl) ?_
  refine At.wp (some 16) (P_fieldAddr0 (off := 0) rfl Tryd.underlying41 rfl sz22 rfl rfl) ?_
  refine At.wq (some 17) (Q_loadN (k := 3) (j := 0) (cs := (key).map u8V) rfl rfl Tryd.underlying22 rfl sz22 rfl rfl rfl (seg_at (i := 0) rfl LN LN) LN) ?_
  refine At.wq (some 18) (Q_loadA (k := 3) rfl rfl Tryd.underlying41 rfl sz41 LN rfl) ?_
  refine At.wp (some 19) (P_move rfl rfl) ?_
  refine At.wcV (some 20) [] (vs := [_, _]) rfl en26 rfl V0 (c_Non (key := key) (iv := iv) (seq := seq) LN LN) ?_
  have := nnS_len iv seq
  refine At.wp (some 21) (P_move rfl rfl) ?_
  refine At.wp (some 22) (P_move rfl rfl) ?_
  refine At.wp (some 23) (P_len_sl rfl rfl ⟨_, Tryd.underlying36⟩ rfl) ?_
  refine At.wqn ?_
  refine At.we ?_
  refine SStep.up (S_callV (some 24) [] [24] (vs := [_, _]) rfl en24 rfl V0 (by simp) (c_hd (t := 23) (n := (nb : Int)) ) (by rintro _ _ ⟨A24, b24, c24, g24a, g24b, rfl, rfl⟩; rfl) ?_)
  rintro _ _ ⟨A24, b24, c24, g24a, g24b, rfl, rfl⟩
  have := hdR_len 23 (nb : Int)
  refine At.we ?_
  refine SStep.up (S_callV (some 25) [(0, _), (24, _)] [25] (vs := [_, _, _, _]) rfl en27 rfl (VN (by simp) rfl View.all (VN (by simp) rfl View.all V0)) (by simp) (c_OpenU (key := key) (nonce := (nnS iv seq)) (b := b) (more := (hdR 23 (nb : Int))) (nb := nb) (nm := ((hdR 23 (nb : Int)).length)) (A := Ab) (A2 := A24) (bq := bb) (q := qb) (br := b24) (r := 0) LN LN LN LN hAb (fun h => g24a (by omega)) OG OG OG) (by rintro _ _ ⟨A25, b25, c25, g25a, g25b, rfl, rfl⟩; rfl) ?_)
  rintro _ _ ⟨A25, b25, c25, g25a, g25b, rfl, rfl⟩
  refine At.wp (some 15) (P_move rfl rfl) ?_
  refine At.wp (some 26) (P_extract rfl rfl rfl) ?_
  refine At.wp (some 27) (P_extract rfl rfl rfl) ?_
  refine At.wp (some 9) (P_assign rfl rfl) ?_
  refine At.wqn ?_
  refine At.wt rfl ?_
  refine At.p (some 10) (P_assign rfl rfl) ?_
  refine At.nil ?_
  refine At.next ?_
  refine At.seq ?_
  refine At.seq ?_
  refine At.region ?_
  refine At.p (some 28) (P_move rfl rfl) ?_
  refine At.p (some 29) (P_cmp rfl rfl rfl rfl rfl rfl) ?_
  refine At.nil ?_
  refine At.next ?_
  refine At.cond rfl (fun h29 => ?_) (fun h29 => ?_)
  · -- cond 29 t
   have e29 : (openE key (nnS iv seq) b (hdR 23 (nb : Int))) ≠ 0 := bne_iff_ne.1 h29
   refine At.seq ?_
   refine At.region ?_
   refine At.p (some 6) (P_assign rfl rfl) ?_
   refine At.p (some 7) (P_assign rfl rfl) ?_
   refine At.p (some 8) (P_assign rfl rfl) ?_
   refine At.nil ?_
   refine At.next ?_
   refine At.ret ?_
   refine At.thn_r ?_
   obtain ⟨z0, z1, z2⟩ := ro_4 (key := key) (iv := iv) (seq := seq) (b := b) (by omega) (by rw [roO, hnb]; first | exact openE_f e29 | exact notT h29)
   refine At.empty 991 0 5 ?_
   refine At.give (.inl rfl) [991] (rows' := [_]) (vs := [_, _, _]) rfl ⟨rfl, rfl, rfl, trivial⟩ rfl (by simp) (by simp) ⟨none, 0, 0, 0, [], fun h => absurd h (by rw [z2]; exact Nat.lt_irrefl 0), by rw [z2]; exact Nat.le_refl 0, by rw [z0, z1, z2]; rfl, by rw [z2]; rfl⟩
  · -- cond 29 f
   have e29 : (openE key (nnS iv seq) b (hdR 23 (nb : Int))) = 0 := bne_eq_false_iff_eq.1 h29
   refine At.skip ?_
   refine At.next ?_
   refine At.seq ?_
   have hol := openT_len key (nnS iv seq) b (hdR 23 (nb : Int))
   refine At.region ?_
   refine At.p (some 30) (P_move rfl rfl) ?_
   refine At.s (S_callV (some 31) [(25, _)] [] (vs := [_, _]) rfl en28 rfl (VN (by simp) rfl View.all V0) (by simp) (c_Trim (b := (openT key (nnS iv seq) b (hdR 23 (nb : Int)))) (nb := ((openT key (nnS iv seq) b (hdR 23 (nb : Int))).length)) (Ab := A25) (cb := c25) (bb := b25) (qb := 0) LN (fun h => g25a (by omega)) OG OG) (by rintro _ _ ⟨A31, c31, g31a, g31b, rfl, rfl⟩; rfl) ?_)
   rintro _ _ ⟨A31, c31, g31a, g31b, rfl, rfl⟩
   refine At.p (some 9) (P_assign rfl rfl) ?_
   refine At.nil ?_
   refine At.next ?_
   refine At.seq ?_
   refine At.seq ?_
   have htl := trN_le (openT key (nnS iv seq) b (hdR 23 (nb : Int))) (openT key (nnS iv seq) b (hdR 23 (nb : Int))).length
   have htL := trL_eq (openT key (nnS iv seq) b (hdR 23 (nb : Int)))
   refine At.region ?_
   refine At.p (some 32) (P_move rfl rfl) ?_
   refine At.p (some 33) (P_len_sl rfl rfl ⟨_, Tryd.underlying36⟩ rfl) ?_
   refine At.p (some 34) (P_cmp rfl rfl rfl rfl rfl rfl) ?_
   refine At.p (some 35) (P_move rfl rfl) ?_
   refine At.gsplit (t := 35) (want := false) rfl (fun g1 => ?_) (fun g1 => ?_)
   ·
    have eg1 : ((trN (openT key (nnS iv seq) b (hdR 23 (nb : Int))) ((openT key (nnS iv seq) b (hdR 23 (nb : Int))).length)) : Int) ≠ 0 := beq_eq_false_iff_ne.1 g1
    refine At.gy (t := 35) rfl g1 rfl rfl ?_
    refine At.p (some 36) (P_move rfl rfl) ?_
    refine At.gy (t := 35) rfl g1 rfl rfl ?_
    refine At.p (some 37) (P_move rfl rfl) ?_
    refine At.gy (t := 35) rfl g1 rfl rfl ?_
    refine At.p (some 38) (P_len_sl rfl rfl ⟨_, Tryd.underlying36⟩ rfl) ?_
    refine At.gy (t := 35) rfl g1 rfl rfl ?_
    refine At.p (some 39) (P_sub_i rfl rfl rfl (by omega)) ?_
    refine At.gy (t := 35) rfl g1 rfl rfl ?_
    refine At.p (some 40) (P_indexAddr_slz (b := b25) (j := ((trN (openT key (nnS iv seq) b (hdR 23 (nb : Int))) ((openT key (nnS iv seq) b (hdR 23 (nb : Int))).length)) - 1)) rfl Tryd.underlying36 sz5 rfl (g31a OG) rfl RO OG) ?_
    refine At.gy (t := 35) rfl g1 rfl rfl ?_
    refine At.q (some 41) (Q_loadM (k := 25) (f := u8V) (l := (openT key (nnS iv seq) b (hdR 23 (nb : Int)))) (0#8) rfl rfl Tryd.underlying5 rfl rfl OG) ?_
    refine At.gy (t := 35) rfl g1 rfl rfl ?_
    refine At.p (some 42) (P_conv_wi UK.u8 (by decide) rfl Tryd.underlying5 Tryd.underlying3 rfl) ?_
    refine At.gy (t := 35) rfl g1 rfl rfl ?_
    refine At.s (S_callV (some 43) [] [] (vs := [_]) rfl en22 rfl V0 (by simp) (c_kd (n := (((openT key (nnS iv seq) b (hdR 23 (nb : Int))).getD ((trN (openT key (nnS iv seq) b (hdR 23 (nb : Int))) ((openT key (nnS iv seq) b (hdR 23 (nb : Int))).length)) - 1) 0#8).toNat : Int)) ) (by rintro _ _ ⟨rfl, rfl⟩; rfl) ?_)
    rintro _ _ ⟨rfl, rfl⟩
    refine At.gy (t := 35) rfl g1 rfl rfl ?_
    refine At.p (some 44) (P_not rfl rfl) ?_
    refine At.p (some 45) (P_pick_f rfl rfl g1 rfl) ?_
    refine At.nil ?_
    refine At.next ?_
    refine At.cond rfl (fun h45 => ?_) (fun h45 => ?_)
    · -- cond 45 t
     have e45 : ¬ (20 ≤ (((openT key (nnS iv seq) b (hdR 23 (nb : Int))).getD ((trN (openT key (nnS iv seq) b (hdR 23 (nb : Int))) ((openT key (nnS iv seq) b (hdR 23 (nb : Int))).length)) - 1) 0#8).toNat : Int) ∧ (((openT key (nnS iv seq) b (hdR 23 (nb : Int))).getD ((trN (openT key (nnS iv seq) b (hdR 23 (nb : Int))) ((openT key (nnS iv seq) b (hdR 23 (nb : Int))).length)) - 1) 0#8).toNat : Int) ≤ 23) := kdOk_f (by first | (simp; done) | simpa using h45)
     refine At.seq ?_
     refine At.region ?_
     refine At.p (some 6) (P_assign rfl rfl) ?_
     refine At.p (some 7) (P_assign rfl rfl) ?_
     refine At.p (some 8) (P_assign rfl rfl) ?_
     refine At.nil ?_
     refine At.next ?_
     refine At.ret ?_
     refine At.thn_r ?_
     obtain ⟨z0, z1, z2⟩ := ro_3 (key := key) (iv := iv) (seq := seq) (b := b) (by omega) (by rw [roO, hnb]; first | exact openE_t e29 | exact notF h29) (by rw [roX, hnb]; first | exact trK_no (by omega) | (rw [trK_at (by omega), htL]; exact notT h45))
     refine At.empty 991 0 5 ?_
     refine At.give (.inl rfl) [991] (rows' := [_]) (vs := [_, _, _]) rfl ⟨rfl, rfl, rfl, trivial⟩ rfl (by simp) (by simp) ⟨none, 0, 0, 0, [], fun h => absurd h (by rw [z2]; exact Nat.lt_irrefl 0), by rw [z2]; exact Nat.le_refl 0, by rw [z0, z1, z2]; rfl, by rw [z2]; rfl⟩
    · -- cond 45 f
     have e45 : 20 ≤ (((openT key (nnS iv seq) b (hdR 23 (nb : Int))).getD ((trN (openT key (nnS iv seq) b (hdR 23 (nb : Int))) ((openT key (nnS iv seq) b (hdR 23 (nb : Int))).length)) - 1) 0#8).toNat : Int) ∧ (((openT key (nnS iv seq) b (hdR 23 (nb : Int))).getD ((trN (openT key (nnS iv seq) b (hdR 23 (nb : Int))) ((openT key (nnS iv seq) b (hdR 23 (nb : Int))).length)) - 1) 0#8).toNat : Int) ≤ 23 := kdOk_t (by first | (simp; done) | simpa using h45)
     refine At.skip ?_
     refine At.next ?_
     refine At.seq ?_
     refine At.region ?_
     refine At.p (some 46) (P_move rfl rfl) ?_
     refine At.p (some 47) (P_len_sl rfl rfl ⟨_, Tryd.underlying36⟩ rfl) ?_
     refine At.p (some 48) (P_sub_i rfl rfl rfl (by omega)) ?_
     refine At.p (some 11) (P_assign rfl rfl) ?_
     refine At.nil ?_
     refine At.next ?_
     refine At.seq ?_
     refine At.draws 10 [] [.q false [0, 1, 2, 3, 4, 5, 6, 7, 8, 9]] (by kernel_rfl) (by kernel_rfl) ?_
     refine At.wp (some 49) (P_move rfl rfl) ?_
     refine At.wp (some 50) (P_move rfl rfl) ?_
     refine At.wp (some 51) (P_indexAddr_slz (b := b25) (j := ((trN (openT key (nnS iv seq) b (hdR 23 (nb : Int))) ((openT key (nnS iv seq) b (hdR 23 (nb : Int))).length)) - 1)) rfl Tryd.underlying36 sz5 rfl (g31a OG) rfl RO OG) ?_
     refine At.wq (some 52) (Q_loadM (k := 25) (f := u8V) (l := (openT key (nnS iv seq) b (hdR 23 (nb : Int)))) (0#8) rfl rfl Tryd.underlying5 rfl rfl OG) ?_
     refine At.wp (some 53) (P_conv_wi UK.u8 (by decide) rfl Tryd.underlying5 Tryd.underlying3 rfl) ?_
     refine At.wp (some 54) (P_move rfl rfl) ?_
     refine At.wp (some 55) (P_move rfl rfl) ?_
     refine At.wp (some 56) (P_move rfl rfl) ?_
     refine At.wp (some 57) (P_slice_sl (l := 0) (h := ((trN (openT key (nnS iv seq) b (hdR 23 (nb : Int))) ((openT key (nnS iv seq) b (hdR 23 (nb : Int))).length)) - 1)) (m := ((trN (openT key (nnS iv seq) b (hdR 23 (nb : Int))) ((openT key (nnS iv seq) b (hdR 23 (nb : Int))).length)) - 1)) rfl Tryd.underlying36 sz5 rfl rfl ⟨_, _, rfl, by omega⟩ ⟨_, _, rfl, by omega⟩ DO DO DO) ?_
     refine At.wp (some 6) (P_assign rfl rfl) ?_
     refine At.wqn ?_
     refine At.wt rfl ?_
     refine At.p (some 7) (P_assign rfl rfl) ?_
     refine At.p (some 8) (P_assign rfl rfl) ?_
     refine At.nil ?_
     refine At.next ?_
     refine At.ret ?_
     obtain ⟨z0, z1, z2⟩ := ro_0 (key := key) (iv := iv) (seq := seq) (b := b) (by omega) (by rw [roO, hnb]; first | exact openE_t e29 | exact notF h29) (by rw [roX, hnb, trK_at (by omega), htL]; exact notF h45)
     have hX : roX key iv seq b = (openT key (nnS iv seq) b (hdR 23 (nb : Int))) := by rw [roX, hnb]
     rw [hX] at z1 z2
     rw [htL] at z2
     have hT : (roT key iv seq b) = (openT key (nnS iv seq) b (hdR 23 (nb : Int))).take (trN (openT key (nnS iv seq) b (hdR 23 (nb : Int))) (openT key (nnS iv seq) b (hdR 23 (nb : Int))).length - 1) := z2
     have hL : (roT key iv seq b).length = trN (openT key (nnS iv seq) b (hdR 23 (nb : Int))) (openT key (nnS iv seq) b (hdR 23 (nb : Int))).length - 1 := by rw [hT, List.length_take]; omega
     have hK := z1.trans (trK_at (b := (openT key (nnS iv seq) b (hdR 23 (nb : Int)))) (by omega))
     rw [htL] at hK
     refine At.give (.inl rfl) [25] (rows' := [_]) (vs := [_, _, _]) rfl ⟨rfl, rfl, rfl, trivial⟩ rfl (by simp) (by simp) ⟨(cut A31 0 ((trN (openT key (nnS iv seq) b (hdR 23 (nb : Int))) ((openT key (nnS iv seq) b (hdR 23 (nb : Int))).length)) - 1) 1), b25, (((trN (openT key (nnS iv seq) b (hdR 23 (nb : Int))) ((openT key (nnS iv seq) b (hdR 23 (nb : Int))).length)) - 1) - 0), (c25 - (openT key (nnS iv seq) b (hdR 23 (nb : Int))).length), (openT key (nnS iv seq) b (hdR 23 (nb : Int))).drop (trN (openT key (nnS iv seq) b (hdR 23 (nb : Int))) (openT key (nnS iv seq) b (hdR 23 (nb : Int))).length - 1), fun h => (fun h => cut_zero (g31a (by omega))) (by omega), by rw [hL]; omega, by rw [hK, hL, z0]; rfl, by rw [hT, List.take_append_drop]⟩
   ·
    have eg1 : ((trN (openT key (nnS iv seq) b (hdR 23 (nb : Int))) ((openT key (nnS iv seq) b (hdR 23 (nb : Int))).length)) : Int) = 0 := eq_of_beq g1
    refine At.gn (some 36) (t := 35) rfl g1 rfl rfl ?_
    refine At.gn (some 37) (t := 35) rfl g1 rfl rfl ?_
    refine At.gn (some 38) (t := 35) rfl g1 rfl rfl ?_
    refine At.gn (some 39) (t := 35) rfl g1 rfl rfl ?_
    refine At.gn (some 40) (t := 35) rfl g1 rfl rfl ?_
    refine At.gn (some 41) (t := 35) rfl g1 rfl rfl ?_
    refine At.gn (some 42) (t := 35) rfl g1 rfl rfl ?_
    refine At.gn (some 43) (t := 35) rfl g1 rfl rfl ?_
    refine At.gn (some 44) (t := 35) rfl g1 rfl rfl ?_
    refine At.p (some 45) (P_pick_t rfl rfl g1 rfl) ?_
    refine At.nil ?_
    refine At.next ?_
    refine At.cond rfl (fun _ => ?_) (fun h => absurd (h.symm.trans rfl) (by decide))
    refine At.seq ?_
    refine At.region ?_
    refine At.p (some 6) (P_assign rfl rfl) ?_
    refine At.p (some 7) (P_assign rfl rfl) ?_
    refine At.p (some 8) (P_assign rfl rfl) ?_
    refine At.nil ?_
    refine At.next ?_
    refine At.ret ?_
    refine At.thn_r ?_
    obtain ⟨z0, z1, z2⟩ := ro_3 (key := key) (iv := iv) (seq := seq) (b := b) (by omega) (by rw [roO, hnb]; first | exact openE_t e29 | exact notF h29) (by rw [roX, hnb]; first | exact trK_no (by omega) | (rw [trK_at (by omega), htL]; exact notT h45))
    refine At.empty 991 0 5 ?_
    refine At.give (.inl rfl) [991] (rows' := [_]) (vs := [_, _, _]) rfl ⟨rfl, rfl, rfl, trivial⟩ rfl (by simp) (by simp) ⟨none, 0, 0, 0, [], fun h => absurd h (by rw [z2]; exact Nat.lt_irrefl 0), by rw [z2]; exact Nat.le_refl 0, by rw [z0, z1, z2]; rfl, by rw [z2]; rfl⟩



end Go.Proofs.YtcjfkmhijfcciaaDoor

