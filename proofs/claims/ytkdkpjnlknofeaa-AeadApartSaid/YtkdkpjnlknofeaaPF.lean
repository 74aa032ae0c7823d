import Derived.Test.YtkdkpjnlknofeaaPE
namespace Go.Proofs.Ytkdkpjnlknofeaa
set_option maxRecDepth 20000
set_option linter.unusedVariables false
set_option linter.unusedSimpArgs false
open Go.SE Go.RowKit
theorem c_TagN {key l : List (BitVec 8)} {A : Option Addr} {n ca bq q : Nat} (hn : l.length = n) (hkey : key.length = 32) (hA : 0 < n → A = some ⟨bq, q, none⟩) (hca : n ≤ ca) (hl : n ≤ 1000000) : Con Try.prog 21 [aggK key, .slice A n ca] [pRow bq q l] (fun v rs => v = aggK (tagS key l) ∧ rs = []) := by
  subst hn
  exact c_Tag key l A ca bq q hkey hA hca hl
theorem r_TagN {key l : List (BitVec 8)} {A : Option Addr} {n ca bq q : Nat} (hn : l.length = n) (hkey : key.length = 32) (hA : 0 < n → A = some ⟨bq, q, none⟩) (hca : n ≤ ca) (hl : n ≤ 1000000) : Con Try.prog 22 [aggK key, .slice A n ca] [pRow bq q l] (fun v rs => v = aggK (tagS key l) ∧ rs = []) := by
  subst hn
  exact r_Tag key l A ca bq q hkey hA hca hl
theorem tagS_len (key l : List (BitVec 8)) : (tagS key l).length = 16 := by simp [tagS]
def kt1 : List (BitVec 8) := [1#8, 0#8, 0#8, 0#8, 0#8, 0#8, 0#8, 0#8, 0#8, 0#8, 0#8, 0#8, 0#8, 0#8, 0#8, 0#8, 3#8, 0#8, 0#8, 0#8, 0#8, 0#8, 0#8, 0#8, 0#8, 0#8, 0#8, 0#8, 0#8, 0#8, 0#8, 0#8]
def kt0 : List (BitVec 8) := List.replicate 32 0#8
def t16a : List (BitVec 8) := [10#8, 1#8, 0#8, 0#8, 0#8, 0#8, 0#8, 0#8, 0#8, 0#8, 0#8, 0#8, 0#8, 0#8, 0#8, 0#8]
theorem pt1 : tagS kt1 [7#8] = t16a := by rw [tagS_val _ _ rfl]; kernel_rfl
theorem pt0 : tagS kt0 [97#8, 98#8, 99#8] = List.replicate 16 0#8 := by rw [tagS_val _ _ rfl]; kernel_rfl
theorem umod_natP (x m : BitVec 64) (h0 : 0 < m.toNat) (h1 : m.toNat ≤ 4611686018427387904) : ∃ k : Nat, k < m.toNat ∧ (x % m).toInt = (k : Int) := by
  refine ⟨(x % m).toNat, ?_, ?_⟩
  · rw [BitVec.toNat_umod]; exact Nat.mod_lt _ h0
  · have h2 : (x % m).toNat < m.toNat := by rw [BitVec.toNat_umod]; exact Nat.mod_lt _ h0
    rw [BitVec.toInt_eq_toNat_cond, if_pos (by omega)]

theorem c_tags  :
    Con Try.prog 20 [] [] (fun v rs => v = .bool true ∧ rs = []) := by
  refine Con.enter Try.func20 Try.ntmps20 (Nat.le_of_ble_eq_true rfl) rfl fun w => ?_
  refine At.seq ?_
  have htl := tagS_len kt1 [7#8]
  refine At.region ?_
  refine At.p (some 0) (P_assign rfl rfl) ?_
  refine At.nil ?_
  refine At.next ?_
  refine At.seq ?_
  refine At.region ?_
  refine At.p (some 2) (P_build_arr (cs := (kt1.map u8V).toArray) (parts := _) (vs := [(0, _), (16, _)]) rfl Try.underlying22 sz5 ze22 rfl rfl) ?_
  refine At.s (S_buildSliceV (some 3) 3 ([7#8].map u8V) rfl Try.underlying31 sz5 ze5 rfl rfl (by decide) (by decide) rfl rfl (fun b3 => ?_))
  refine At.s (S_callV (some 4) [(3, _)] [] (vs := [_, _]) rfl en21 rfl (VN (by simp) rfl View.all V0) (by simp) (c_TagN (l := [7#8]) rfl rfl (fun _ => rfl) (by decide) (by decide)) (by rintro _ _ ⟨rfl, rfl⟩; rfl) ?_)
  rintro _ _ ⟨rfl, rfl⟩
  refine At.s (S_alloc (some 1) 1 (zs := (List.replicate 16 0#8).map u8V) rfl ze36 rfl (fun b1 => ?_))
  refine At.s (S_storeA none (k := 1) (vs := _) rfl rfl rfl (by first | (rw [sz36]; simp <;> omega) | exact sz36) rfl (by first | (intro u hu; obtain ⟨z, _, rfl⟩ := List.mem_map.1 hu; rfl) | simp [Value.oneCell']) (by first | (simp; done) | (intro h; have h2 := congrArg List.length h; simp only [List.length_map, List.length_nil] at h2; omega) | (intro h; cases h)) rfl (by first | omega | (simp <;> omega) | rfl | (simp [*]; done)) ?_)
  refine At.nil ?_
  refine At.next ?_
  refine At.seq ?_
  refine At.region ?_
  refine At.q (some 5) (Q_loadA (k := 1) rfl rfl Try.underlying36 rfl sz36 (by first | omega | (simp <;> omega)) rfl) ?_
  refine At.p (some 6) (P_build_arr (cs := (t16a.map u8V).toArray) (parts := _) (vs := [(0, _), (1, _)]) rfl Try.underlying36 sz5 ze36 rfl rfl) ?_
  refine At.p (some 7) (P_eql_arr rfl Try.underlying36 Try.underlying5 sz5 Try.eqGuardType36 rfl rfl (tagS_len _ _) rfl) ?_
  refine At.p (some 8) (P_move rfl rfl) ?_
  refine At.gy (t := 8) rfl (by rw [pt1]; rfl) rfl rfl ?_
  refine At.p (some 9) (P_build_arr (cs := (kt0.map u8V).toArray) (parts := _) (vs := []) rfl Try.underlying22 sz5 ze22 rfl rfl) ?_
  refine At.gy (t := 8) rfl (by rw [pt1]; rfl) rfl rfl ?_
  refine At.s (S_buildSliceV (some 10) 10 ([97#8, 98#8, 99#8].map u8V) rfl Try.underlying31 sz5 ze5 rfl rfl (by decide) (by decide) rfl ⟨rfl, rfl, rfl⟩ (fun b10 => ?_))
  refine At.gy (t := 8) rfl (by rw [pt1]; rfl) rfl rfl ?_
  refine At.s (S_convB (some 11) (k := 10) rfl Try.underlying31 Try.underlying5 rfl rfl (by simp) ?_)
  refine At.gy (t := 8) rfl (by rw [pt1]; rfl) rfl rfl ?_
  refine At.s (S_callV (some 12) [(10, _)] [] (vs := [_, _]) rfl en21 rfl (VN (by simp) rfl View.all V0) (by simp) (c_TagN (l := [97#8, 98#8, 99#8]) rfl rfl (fun _ => rfl) (by decide) (by decide)) (by rintro _ _ ⟨rfl, rfl⟩; rfl) ?_)
  rintro _ _ ⟨rfl, rfl⟩
  refine At.gy (t := 8) rfl (by rw [pt1]; rfl) rfl rfl ?_
  refine At.p (some 13) (P_build_arr (cs := ((List.replicate 16 0#8).map u8V).toArray) (parts := _) (vs := []) rfl Try.underlying36 sz5 ze36 rfl rfl) ?_
  refine At.gy (t := 8) rfl (by rw [pt1]; rfl) rfl rfl ?_
  refine At.p (some 14) (P_eql_arr rfl Try.underlying36 Try.underlying5 sz5 Try.eqGuardType36 rfl rfl (tagS_len _ _) rfl) ?_
  refine At.p (some 15) (P_pick_t rfl rfl (by rw [pt1]; rfl) rfl) ?_
  refine At.p (some 0) (P_assign rfl rfl) ?_
  refine At.nil ?_
  refine At.next ?_
  refine At.ret ?_
  refine At.give (.inl rfl) [] (rows' := []) (vs := [_]) rfl ⟨rfl, trivial⟩ rfl (by simp) (by simp) ⟨congrArg Value.bool (by rw [pt0]; rfl), rfl⟩

theorem l_Tags (key l : List (BitVec 8)) (A : Option Addr) (ca bq q : Nat) (hkey : key.length = 32) (hA : 0 < l.length → A = some ⟨bq, q, none⟩) (hca : l.length ≤ ca) :
    Con Try.prog 8 [aggK key, .slice A l.length ca] [pRow bq q l] (fun v rs => v = .bool true ∧ rs = []) := by
  refine Con.enter Try.func8 Try.ntmps8 (Nat.le_of_ble_eq_true rfl) rfl fun w => ?_
  refine At.seq ?_
  have hk32 : key.length = 32 := hkey
  obtain ⟨n, hn⟩ : ∃ n, n = min l.length 200 := ⟨_, rfl⟩
  have hn2 : (l.take n).length = n := by simp; omega
  refine At.region ?_
  refine At.s (S_box (some 2) 2 (zs := key.map u8V) rfl rfl rfl (fun b2 => ?_))
  refine At.p (some 4) (P_assign rfl rfl) ?_
  refine At.nil ?_
  refine At.next ?_
  refine At.seq ?_
  refine At.region ?_
  refine At.p (some 6) (P_move rfl rfl) ?_
  refine At.p (some 7) (P_move rfl rfl) ?_
  refine At.p (some 8) (P_len_sl rfl rfl ⟨_, Try.underlying31⟩ rfl) ?_
  refine At.p (some 9) (P_min2 rfl rfl rfl rfl) ?_
  refine At.p (some 10) (P_slice_sl (h := n) rfl Try.underlying31 sz5 rfl rfl ⟨_, _, rfl, by omega⟩ rfl (by omega) (by omega) (by omega)) ?_
  refine At.p (some 1) (P_assign rfl rfl) ?_
  refine At.nil ?_
  refine At.next ?_
  refine At.seq ?_
  refine At.region ?_
  refine At.p (some 11) (P_move rfl rfl) ?_
  refine At.q (some 12) (Q_strN (l := l.take n) (n := n) (k := 0) (j := 0) (r := pRow bq q l) hn2 rfl Try.underlying31 Try.underlying5 Try.underlying9 rfl (fun h => cut_zero (hA (by omega))) (by exact fun _ => ⟨rfl, rfl, rfl⟩) (by simp [List.map_take, pRow])) ?_
  refine At.p (some 5) (P_assign rfl rfl) ?_
  refine At.nil ?_
  refine At.next ?_
  refine At.seq ?_
  refine At.draws 14 [] [.q false [0, 1, 2, 3, 4, 5, 6, 7, 8, 9, 10, 11, 12, 13]] (by kernel_rfl) (by kernel_rfl) ?_
  refine At.wcV (some 13) [] (vs := []) rfl en20 rfl V0 (c_tags) ?_
  refine At.wp (some 14) (P_move rfl rfl) ?_
  refine At.wgyq (some 15) (t := 14) rfl rfl rfl rfl (Q_loadA (k := 2) rfl rfl Try.underlying22 rfl sz22 (by first | omega | (simp <;> omega)) rfl) ?_
  refine At.wgy (some 16) (t := 14) rfl rfl rfl rfl (P_move rfl rfl) ?_
  refine At.wcVg (some 17) [(0, _)] (tt := 14) rfl rfl rfl rfl (vs := [_, _]) rfl en21 rfl (VN (by simp) rfl (View.sub (j := 0) (m := n) rfl rfl) V0) (c_TagN (l := l.take n) (n := n) hn2 hkey (fun h => cut_zero (hA (by omega))) (by omega) (by omega)) ?_
  refine At.wgyq (some 18) (t := 14) rfl rfl rfl rfl (Q_loadA (k := 2) rfl rfl Try.underlying22 rfl sz22 (by first | omega | (simp <;> omega)) rfl) ?_
  refine At.wgy (some 19) (t := 14) rfl rfl rfl rfl (P_move rfl rfl) ?_
  refine At.wcVg (some 20) [(0, _)] (tt := 14) rfl rfl rfl rfl (vs := [_, _]) rfl en22 rfl (VN (by simp) rfl (View.sub (j := 0) (m := n) rfl rfl) V0) (r_TagN (l := l.take n) (n := n) hn2 hkey (fun h => cut_zero (hA (by omega))) (by omega) (by omega)) ?_
  refine At.wgy (some 21) (t := 14) rfl rfl rfl rfl (P_eql_arr rfl Try.underlying36 Try.underlying5 sz5 Try.eqGuardType36 rfl rfl (tagS_len _ _) (tagS_len _ _)) ?_
  refine At.wp (some 22) (P_pick_t rfl rfl rfl rfl) ?_
  refine At.wp (some 23) (P_move rfl rfl) ?_
  refine At.wgy (some 24) (t := 23) rfl (by simp) rfl rfl (P_move rfl rfl) ?_
  refine At.wgyq (some 25) (t := 23) rfl (by simp) rfl rfl (Q_strN (l := l.take n) (n := n) (k := 0) (j := 0) (r := pRow bq q l) hn2 rfl Try.underlying31 Try.underlying5 Try.underlying9 rfl (fun h => cut_zero (hA (by omega))) (by exact fun _ => ⟨rfl, rfl, rfl⟩) (by simp [List.map_take, pRow])) ?_
  refine At.wgy (some 26) (t := 23) rfl (by simp) rfl rfl (P_move rfl rfl) ?_
  refine At.wqn ?_
  refine At.wt rfl ?_
  refine At.gy (t := 23) rfl (by simp) rfl rfl ?_
  refine At.p (some 27) (P_eql_str rfl rfl rfl) ?_
  refine At.p (some 28) (P_pick_t rfl rfl (by simp) rfl) ?_
  refine At.p (some 4) (P_assign rfl rfl) ?_
  refine At.nil ?_
  refine At.next ?_
  refine At.ret ?_
  refine At.give (.inl rfl) [] (rows' := []) (vs := [_]) rfl ⟨rfl, trivial⟩ rfl (by simp) (by simp) ⟨congrArg Value.bool (by simp), rfl⟩

theorem l_Edges (x0 x1 y0 y1 : BitVec 8) (z : Int) :
    Con Try.prog 9 [aggK [x0, x1], iV z, aggK [y0, y1]] [] (fun v rs => v = .bool true ∧ rs = []) := by
  refine Con.enter Try.func9 Try.ntmps9 (Nat.le_of_ble_eq_true rfl) rfl fun w => ?_
  refine At.seq ?_
  obtain ⟨k, hk, hke⟩ := umod_natP (BitVec.ofInt 64 z) 5#64 (by decide) (by decide)
  have hk : k < 5 := hk
  obtain ⟨n, hn⟩ : ∃ n, n = 1 + k := ⟨_, rfl⟩
  refine At.region ?_
  refine At.s (S_box (some 3) 3 (zs := [x0, x1].map u8V) rfl rfl rfl (fun b3 => ?_))
  refine At.s (S_box (some 5) 5 (zs := [y0, y1].map u8V) rfl rfl rfl (fun b5 => ?_))
  refine At.p (some 6) (P_assign rfl rfl) ?_
  refine At.nil ?_
  refine At.next ?_
  refine At.seq ?_
  refine At.draws 5 [] [.q false [0, 1, 2, 3, 4]] (by kernel_rfl) (by kernel_rfl) ?_
  refine At.wp (some 14) (P_indexAddr_arr1 (j := 0) rfl Try.underlying39 sz5 rfl rfl rfl (by decide)) ?_
  refine At.wq (some 15) (Q_loadM (k := 5) (0#8) rfl rfl Try.underlying5 rfl rfl (by first | omega | (simp <;> omega))) ?_
  refine At.wp (some 16) (P_indexAddr_arr1 (j := 1) rfl Try.underlying39 sz5 rfl rfl rfl (by decide)) ?_
  refine At.wq (some 17) (Q_loadM (k := 5) (0#8) rfl rfl Try.underlying5 rfl rfl (by first | omega | (simp <;> omega))) ?_
  refine At.wp (some 7) (P_assign rfl rfl) ?_
  refine At.wqn ?_
  refine At.wt rfl ?_
  refine At.p (some 8) (P_assign rfl rfl) ?_
  refine At.nil ?_
  refine At.next ?_
  refine At.seq ?_
  refine At.region ?_
  refine At.s (S_alloc (some 9) 9 (zs := (List.replicate 32 0#8).map u8V) rfl ze22 rfl (fun b9 => ?_))
  refine At.nil ?_
  refine At.next ?_
  refine At.seq ?_
  refine At.seq ?_
  refine At.region ?_
  refine At.p (some 10) (P_assign rfl rfl) ?_
  refine At.nil ?_
  refine At.next ?_
  refine At.block ?_
  refine At.loopx (I := fun m fr H => ∃ (i : Nat) (K : List (BitVec 8)), m = 16 - i ∧ fr = frOf [(1, iV z), (3, ptr b3 0), (7, u8V y0), (8, u8V y1), (9, ptr b9 0), (10, iV (i : Int))] ∧ H = hOf [(3, ⟨true, b3, 0, 39, [x0, x1].map u8V, 0⟩), (9, ⟨true, b9, 0, 22, K.map u8V, 0⟩)] ∧ i ≤ 16 ∧ K.length = 32) ?_ ?_
  · intro Kc0 hKc0
    refine At.to [(1, _), (3, _), (7, _), (8, _), (9, _), (10, _)] [(3, _), (9, _)] (AllL.cons_ (rfl) (AllL.cons_ (rfl) (AllL.cons_ (rfl) (AllL.cons_ (rfl) (AllL.cons_ (rfl) (AllL.cons_ (rfl) trivial)))))) (AllL.cons_ (rfl) (AllL.cons_ (rfl) trivial)) ?_
    exact hKc0 _ _ _ ⟨0, List.replicate 32 0#8, rfl, rfl, rfl, by omega, rfl⟩
  · rintro m fr H ⟨i, K, rfl, rfl, rfl, hi, hK⟩ Kc0 hKc0
    refine At.seq ?_
    refine At.seq ?_
    refine At.region ?_
    refine At.p (some 18) (P_move rfl rfl) ?_
    refine At.p (some 19) (P_cmp rfl rfl rfl rfl rfl rfl) ?_
    refine At.nil ?_
    refine At.next ?_
    refine At.cond rfl (fun h19 => ?_) (fun h19 => ?_)
    · -- cond 19 t
      have hlt : i < 16 := by simp at h19; omega
      refine At.skip ?_
      refine At.next ?_
      refine At.seq ?_
      refine At.block ?_
      refine At.seq ?_
      refine At.region ?_
      refine At.p (some 22) (P_move rfl rfl) ?_
      refine At.p (some 23) (P_indexAddr_arr1 (j := 0) rfl Try.underlying39 sz5 rfl rfl rfl (by decide)) ?_
      refine At.q (some 24) (Q_loadM (k := 3) (0#8) rfl rfl Try.underlying5 rfl rfl (by first | omega | (simp <;> omega))) ?_
      refine At.p (some 25) (P_indexAddr_arr1 rfl Try.underlying22 sz5 rfl rfl rfl (by omega)) ?_
      refine At.s (S_storeM none (f := u8V) (k := 9) rfl rfl rfl sz5 rfl rfl rfl (by first | omega | (simp <;> omega)) ?_)
      refine At.nil ?_
      refine At.next ?_
      refine At.region ?_
      refine At.p (some 26) (P_move rfl rfl) ?_
      refine At.p (some 27) (P_add_i rfl rfl rfl (by omega)) ?_
      refine At.p (some 28) (P_move rfl rfl) ?_
      refine At.p (some 29) (P_indexAddr_arr1 (j := 16 + i) rfl Try.underlying22 sz5 rfl rfl (by omega) (by omega)) ?_
      refine At.s (S_storeM none (f := u8V) (k := 9) rfl rfl rfl sz5 rfl rfl rfl (by first | omega | (simp <;> omega)) ?_)
      refine At.nil ?_
      refine At.inb_n ?_
      refine At.next ?_
      refine At.region ?_
      refine At.p (some 20) (P_move rfl rfl) ?_
      refine At.p (some 21) (P_add_i rfl rfl rfl (by omega)) ?_
      refine At.p (some 10) (P_assign rfl rfl) ?_
      refine At.nil ?_
      refine At.next ?_
      refine At.to [(1, _), (3, _), (7, _), (8, _), (9, _), (10, _)] [(3, _), (9, _)] (AllL.cons_ (rfl) (AllL.cons_ (rfl) (AllL.cons_ (rfl) (AllL.cons_ (rfl) (AllL.cons_ (rfl) (AllL.cons_ (rfl) trivial)))))) (AllL.cons_ (rfl) (AllL.cons_ (rfl) trivial)) ?_
      exact hKc0 _ _ _ (by omega) ⟨i + 1, _, rfl, rfl, rfl, by omega, by simp [hK]⟩
    · -- cond 19 f
      obtain rfl : i = 16 := by simp at h19; omega
      refine At.exit ?_
      refine At.thn_e ?_
      refine At.thn_e ?_
      refine At.inb_hit ?_
      refine At.next ?_
      refine At.seq ?_
      refine At.region ?_
      refine At.p (some 30) (P_indexAddr_arr1 (j := 1) rfl Try.underlying39 sz5 rfl rfl rfl (by decide)) ?_
      refine At.q (some 31) (Q_loadM (k := 3) (0#8) rfl rfl Try.underlying5 rfl rfl (by first | omega | (simp <;> omega))) ?_
      refine At.p (some 32) (P_indexAddr_arr1 (j := 0) rfl Try.underlying22 sz5 rfl rfl rfl (by decide)) ?_
      refine At.s (S_storeM none (f := u8V) (k := 9) rfl rfl rfl sz5 rfl rfl rfl (by first | omega | (simp <;> omega)) ?_)
      refine At.nil ?_
      refine At.next ?_
      refine At.seq ?_
      have hK2 : (K.set 0 ([x0, x1].getD 1 0#8)).length = 32 := by simp [hK]
      generalize K.set 0 ([x0, x1].getD 1 0#8) = K2 at *
      refine At.region ?_
      refine At.p (some 33) (P_move rfl rfl) ?_
      refine At.p (some 34) (P_conv_iw UK.u64 rfl Try.underlying3 Try.underlying29 rfl) ?_
      refine At.p (some 35) (P_rem_w UK.u64 (b := 5#64) rfl rfl rfl (by decide)) ?_
      refine At.p (some 36) (P_conv_WiE hke rfl Try.underlying29 Try.underlying3 rfl) ?_
      refine At.p (some 37) (P_add_i rfl rfl rfl (by omega)) ?_
      refine At.p (some 11) (P_assign rfl rfl) ?_
      refine At.nil ?_
      refine At.next ?_
      refine At.seq ?_
      refine At.region ?_
      refine At.p (some 38) (P_move rfl rfl) ?_
      refine At.p (some 39) (P_mul_i rfl rfl rfl (by omega)) ?_
      refine At.s (S_makeN (some 40) 12 (n := 16 * n) (cs := (List.replicate (16 * n) 0#8).map u8V) rfl Try.underlying31 sz5 by5 ze5 rfl rfl (by omega) (by omega) (by omega) (by omega) ((made_one (n := 16 * n) (by omega)).trans (by rw [List.map_replicate]; rfl)) (fun b12 => ?_))
      refine At.p (some 12) (P_assign rfl rfl) ?_
      refine At.nil ?_
      refine At.next ?_
      refine At.seq ?_
      refine At.seq ?_
      refine At.region ?_
      refine At.p (some 13) (P_assign rfl rfl) ?_
      refine At.nil ?_
      refine At.next ?_
      refine At.block ?_
      refine At.loopx (I := fun m fr H => ∃ (i : Nat) (M : List (BitVec 8)), m = 16 * n - i ∧ fr = frOf [(7, u8V y0), (9, ptr b9 0), (12, .slice (some ⟨b12, 0, none⟩) (16 * n) (16 * n)), (13, iV (i : Int))] ∧ H = hOf [(9, ⟨true, b9, 0, 22, K2.map u8V, 0⟩), (12, ⟨true, b12, 0, 5, M.map u8V, 0⟩)] ∧ i ≤ 16 * n ∧ M.length = 16 * n) ?_ ?_
      · intro Kc1 hKc1
        refine At.to [(7, _), (9, _), (12, _), (13, _)] [(9, _), (12, _)] (AllL.cons_ (rfl) (AllL.cons_ (rfl) (AllL.cons_ (rfl) (AllL.cons_ (rfl) trivial)))) (AllL.cons_ (rfl) (AllL.cons_ (rfl) trivial)) ?_
        exact hKc1 _ _ _ ⟨0, List.replicate (16 * n) 0#8, rfl, rfl, rfl, by omega, by simp⟩
      · rintro m fr H ⟨i, M, rfl, rfl, rfl, hi, hM⟩ Kc1 hKc1
        refine At.seq ?_
        refine At.seq ?_
        refine At.region ?_
        refine At.p (some 41) (P_move rfl rfl) ?_
        refine At.p (some 42) (P_move rfl rfl) ?_
        refine At.p (some 43) (P_len_sl rfl rfl ⟨_, Try.underlying31⟩ rfl) ?_
        refine At.p (some 44) (P_cmp rfl rfl rfl rfl rfl rfl) ?_
        refine At.nil ?_
        refine At.next ?_
        refine At.cond rfl (fun h44 => ?_) (fun h44 => ?_)
        · -- cond 44 t
          have hlt : i < 16 * n := by simp at h44; omega
          refine At.skip ?_
          refine At.next ?_
          refine At.seq ?_
          refine At.block ?_
          refine At.region ?_
          refine At.p (some 47) (P_move rfl rfl) ?_
          refine At.p (some 48) (P_move rfl rfl) ?_
          refine At.p (some 49) (P_indexAddr_slz rfl Try.underlying31 sz5 rfl rfl rfl rfl (by omega)) ?_
          refine At.s (S_storeM none (f := u8V) (k := 12) (u := 255#8) rfl rfl rfl sz5 rfl rfl rfl (by first | omega | (simp <;> omega)) ?_)
          refine At.nil ?_
          refine At.inb_n ?_
          refine At.next ?_
          refine At.region ?_
          refine At.p (some 45) (P_move rfl rfl) ?_
          refine At.p (some 46) (P_add_i rfl rfl rfl (by omega)) ?_
          refine At.p (some 13) (P_assign rfl rfl) ?_
          refine At.nil ?_
          refine At.next ?_
          refine At.to [(7, _), (9, _), (12, _), (13, _)] [(9, _), (12, _)] (AllL.cons_ (rfl) (AllL.cons_ (rfl) (AllL.cons_ (rfl) (AllL.cons_ (rfl) trivial)))) (AllL.cons_ (rfl) (AllL.cons_ (rfl) trivial)) ?_
          exact hKc1 _ _ _ (by omega) ⟨i + 1, _, rfl, rfl, rfl, by omega, by simp [hM]⟩
        · -- cond 44 f
          obtain rfl : i = 16 * n := by simp at h44; omega
          refine At.exit ?_
          refine At.thn_e ?_
          refine At.thn_e ?_
          refine At.inb_hit ?_
          refine At.next ?_
          refine At.seq ?_
          refine At.region ?_
          refine At.p (some 50) (P_move rfl rfl) ?_
          refine At.p (some 51) (P_move rfl rfl) ?_
          refine At.p (some 52) (P_len_sl rfl rfl ⟨_, Try.underlying31⟩ rfl) ?_
          refine At.p (some 53) (P_sub_i rfl rfl rfl (by omega)) ?_
          refine At.p (some 54) (P_move rfl rfl) ?_
          refine At.p (some 55) (P_indexAddr_slz (j := 16 * n - 16) rfl Try.underlying31 sz5 rfl rfl rfl (by omega) (by omega)) ?_
          refine At.s (S_storeM none (f := u8V) (k := 12) rfl rfl rfl sz5 rfl rfl rfl (by first | omega | (simp <;> omega)) ?_)
          refine At.nil ?_
          refine At.next ?_
          refine At.seq ?_
          have hM2 : (M.set (16 * n - 16) y0).length = 16 * n := by simp [hM]
          generalize M.set (16 * n - 16) y0 = M2 at *
          refine At.draws 7 [] [.q false [0, 1, 2, 3, 4, 5, 6]] (by kernel_rfl) (by kernel_rfl) ?_
          refine At.wcV (some 56) [] (vs := []) rfl en20 rfl V0 (c_tags) ?_
          refine At.wp (some 57) (P_move rfl rfl) ?_
          refine At.wgyq (some 58) (t := 57) rfl rfl rfl rfl (Q_loadA (k := 9) rfl rfl Try.underlying22 rfl sz22 (by first | omega | (simp <;> omega)) rfl) ?_
          refine At.wgy (some 59) (t := 57) rfl rfl rfl rfl (P_move rfl rfl) ?_
          refine At.wcVg (some 60) [(12, _)] (tt := 57) rfl rfl rfl rfl (vs := [_, _]) rfl en21 rfl (VN (by simp) rfl View.all V0) (c_TagN (l := M2) (n := 16 * n) hM2 hK2 (fun h => rfl) (by omega) (by omega)) ?_
          refine At.wgyq (some 61) (t := 57) rfl rfl rfl rfl (Q_loadA (k := 9) rfl rfl Try.underlying22 rfl sz22 (by first | omega | (simp <;> omega)) rfl) ?_
          refine At.wgy (some 62) (t := 57) rfl rfl rfl rfl (P_move rfl rfl) ?_
          refine At.wqn ?_
          refine At.wt rfl ?_
          refine At.gy (t := 57) rfl rfl rfl rfl ?_
          refine At.s (S_callV (some 63) [(12, _)] [] (vs := [_, _]) rfl en22 rfl (VN (by simp) rfl View.all V0) (by simp) (r_TagN (l := M2) (n := 16 * n) hM2 hK2 (fun h => rfl) (by omega) (by omega)) (by rintro _ _ ⟨rfl, rfl⟩; rfl) ?_)
          rintro _ _ ⟨rfl, rfl⟩
          refine At.gy (t := 57) rfl rfl rfl rfl ?_
          refine At.p (some 64) (P_eql_arr rfl Try.underlying36 Try.underlying5 sz5 Try.eqGuardType36 rfl rfl (tagS_len _ _) (tagS_len _ _)) ?_
          refine At.p (some 65) (P_pick_t rfl rfl rfl rfl) ?_
          refine At.p (some 6) (P_assign rfl rfl) ?_
          refine At.nil ?_
          refine At.next ?_
          refine At.ret ?_
          refine At.give (.inl rfl) [] (rows' := []) (vs := [_]) rfl ⟨rfl, trivial⟩ rfl (by simp) (by simp) ⟨congrArg Value.bool (by simp), rfl⟩

theorem l_Edges2 (x y : List (BitVec 8)) (z : Int) (hx : x.length = 2) (hy : y.length = 2) : Con Try.prog 9 [aggK x, iV z, aggK y] [] (fun v rs => v = .bool true ∧ rs = []) := by
  match x, y, hx, hy with
  | [a, b], [c, d], _, _ => exact l_Edges a b c d z

def want (n k : Nat) : List (BitVec 8) := if 4 ≤ n then (if 0 < k then (List.replicate 16 0#8).set k 1#8 else List.replicate 16 0#8).set 0 ((if 0 < k then (List.replicate 16 0#8).set k 1#8 else List.replicate 16 0#8).getD 0 0#8 + 5#8) else if 0 < k then (List.replicate 16 0#8).set k 1#8 else List.replicate 16 0#8
def kone : List (BitVec 8) := [1#8, 0#8, 0#8, 0#8, 0#8, 0#8, 0#8, 0#8, 0#8, 0#8, 0#8, 0#8, 0#8, 0#8, 0#8, 0#8, 0#8, 0#8, 0#8, 0#8, 0#8, 0#8, 0#8, 0#8, 0#8, 0#8, 0#8, 0#8, 0#8, 0#8, 0#8, 0#8]
theorem ones_all : (List.range 6).all (fun n => (List.range 16).all fun k => by16 (polyN (rNum kone) (List.replicate (16 * n + k) 0#8) (nBlk (List.replicate (16 * n + k) 0#8)) + sNum kone) == want n k) = true := by kernel_rfl
theorem ones {n k : Nat} (hn : n < 6) (hk : k < 16) : tagS kone (List.replicate (16 * n + k) 0#8) = want n k := by
  rw [tagS_val _ _ rfl]
  have h := List.all_eq_true.1 (List.all_eq_true.1 ones_all n (List.mem_range.2 hn)) k (List.mem_range.2 hk)
  simpa using h

theorem l_Ones (z1 z2 : Int) :
    Con Try.prog 11 [iV z1, iV z2] [] (fun v rs => v = .bool true ∧ rs = []) := by
  refine Con.enter Try.func11 Try.ntmps11 (Nat.le_of_ble_eq_true rfl) rfl fun w => ?_
  refine At.seq ?_
  obtain ⟨n, hn, hne⟩ := umod_natP (BitVec.ofInt 64 z1) 6#64 (by decide) (by decide)
  have hn : n < 6 := hn
  obtain ⟨k, hk, hke⟩ := umod_natP (BitVec.ofInt 64 z2) 16#64 (by decide) (by decide)
  have hk : k < 16 := hk
  refine At.region ?_
  refine At.p (some 4) (P_assign rfl rfl) ?_
  refine At.nil ?_
  refine At.next ?_
  refine At.seq ?_
  have htl := tagS_len kone (List.replicate (16 * n + k) 0#8)
  refine At.region ?_
  refine At.p (some 9) (P_move rfl rfl) ?_
  refine At.p (some 10) (P_conv_iw UK.u64 rfl Try.underlying3 Try.underlying29 rfl) ?_
  refine At.p (some 11) (P_rem_w UK.u64 (b := 6#64) rfl rfl rfl (by decide)) ?_
  refine At.p (some 12) (P_conv_WiE hne rfl Try.underlying29 Try.underlying3 rfl) ?_
  refine At.p (some 13) (P_move rfl rfl) ?_
  refine At.p (some 14) (P_conv_iw UK.u64 rfl Try.underlying3 Try.underlying29 rfl) ?_
  refine At.p (some 15) (P_rem_w UK.u64 (b := 16#64) rfl rfl rfl (by decide)) ?_
  refine At.p (some 16) (P_conv_WiE hke rfl Try.underlying29 Try.underlying3 rfl) ?_
  refine At.p (some 5) (P_assign rfl rfl) ?_
  refine At.p (some 6) (P_assign rfl rfl) ?_
  refine At.nil ?_
  refine At.next ?_
  refine At.seq ?_
  refine At.region ?_
  refine At.p (some 17) (P_build_arr (cs := (kone.map u8V).toArray) (parts := _) (vs := [(0, _)]) rfl Try.underlying22 sz5 ze22 rfl rfl) ?_
  refine At.p (some 18) (P_move rfl rfl) ?_
  refine At.p (some 19) (P_mul_i rfl rfl rfl (by omega)) ?_
  refine At.p (some 20) (P_move rfl rfl) ?_
  refine At.p (some 21) (P_add_i rfl rfl rfl (by omega)) ?_
  refine At.s (S_makeN (some 22) 22 (n := 16 * n + k) (cs := (List.replicate (16 * n + k) 0#8).map u8V) rfl Try.underlying31 sz5 by5 ze5 rfl rfl (by omega) (by omega) (by omega) (by omega) ((made_one (n := 16 * n + k) (by omega)).trans (by rw [List.map_replicate]; rfl)) (fun b22 => ?_))
  refine At.s (S_callV (some 23) [(22, _)] [] (vs := [_, _]) rfl en21 rfl (VN (by simp) rfl View.all V0) (by simp) (c_TagN (l := List.replicate (16 * n + k) 0#8) (n := 16 * n + k) (by simp) rfl (fun h => rfl) (by omega) (by omega)) (by rintro _ _ ⟨rfl, rfl⟩; rfl) ?_)
  rintro _ _ ⟨rfl, rfl⟩
  refine At.s (S_alloc (some 7) 7 (zs := (List.replicate 16 0#8).map u8V) rfl ze36 rfl (fun b7 => ?_))
  refine At.s (S_storeA none (k := 7) (vs := _) rfl rfl rfl (by first | (rw [sz36]; simp <;> omega) | exact sz36) rfl (by first | (intro u hu; obtain ⟨z, _, rfl⟩ := List.mem_map.1 hu; rfl) | simp [Value.oneCell']) (by first | (simp; done) | (intro h; have h2 := congrArg List.length h; simp only [List.length_map, List.length_nil] at h2; omega) | (intro h; cases h)) rfl (by first | omega | (simp <;> omega) | rfl | (simp [*]; done)) ?_)
  refine At.nil ?_
  refine At.next ?_
  refine At.seq ?_
  refine At.region ?_
  refine At.s (S_alloc (some 8) 8 (zs := (List.replicate 16 0#8).map u8V) rfl ze36 rfl (fun b8 => ?_))
  refine At.nil ?_
  refine At.next ?_
  refine At.seq ?_
  refine At.seq ?_
  refine At.region ?_
  refine At.p (some 24) (P_move rfl rfl) ?_
  refine At.p (some 25) (P_cmp rfl rfl rfl rfl rfl rfl) ?_
  refine At.nil ?_
  refine At.next ?_
  refine At.cond rfl (fun h25 => ?_) (fun h25 => ?_)
  · -- cond 25 t
    have hk0 : 0 < k := by simp at h25; omega
    refine At.region ?_
    refine At.p (some 26) (P_move rfl rfl) ?_
    refine At.p (some 27) (P_indexAddr_arr1 rfl Try.underlying36 sz5 rfl rfl rfl (by omega)) ?_
    refine At.s (S_storeM none (f := u8V) (k := 8) (u := 1#8) rfl rfl rfl sz5 rfl rfl rfl (by first | omega | (simp <;> omega)) ?_)
    refine At.nil ?_
    refine At.next ?_
    refine At.seq ?_
    refine At.seq ?_
    refine At.region ?_
    refine At.p (some 28) (P_move rfl rfl) ?_
    refine At.p (some 29) (P_cmp rfl rfl rfl rfl rfl rfl) ?_
    refine At.nil ?_
    refine At.next ?_
    refine At.cond rfl (fun h29 => ?_) (fun h29 => ?_)
    · -- cond 29 t
      have hn4 : 4 ≤ n := by simp at h29; omega
      refine At.region ?_
      refine At.p (some 30) (P_indexAddr_arr1 (j := 0) rfl Try.underlying36 sz5 rfl rfl rfl (by decide)) ?_
      refine At.q (some 31) (Q_loadM (k := 8) (0#8) rfl rfl Try.underlying5 rfl rfl (by first | omega | (simp <;> omega))) ?_
      refine At.p (some 32) (P_add_w UK.u8 (b := 5#8) rfl rfl rfl) ?_
      refine At.p (some 33) (P_indexAddr_arr1 (j := 0) rfl Try.underlying36 sz5 rfl rfl rfl (by decide)) ?_
      refine At.s (S_storeM none (f := u8V) (k := 8) rfl rfl rfl sz5 rfl rfl rfl (by first | omega | (simp <;> omega)) ?_)
      refine At.nil ?_
      refine At.next ?_
      refine At.seq ?_
      refine At.region ?_
      refine At.s (S_callV (some 34) [] [] (vs := []) rfl en20 rfl V0 (by simp) (c_tags) (by rintro _ _ ⟨rfl, rfl⟩; rfl) ?_)
      rintro _ _ ⟨rfl, rfl⟩
      refine At.p (some 35) (P_move rfl rfl) ?_
      refine At.gy (t := 35) rfl rfl rfl rfl ?_
      refine At.q (some 36) (Q_loadA (k := 7) rfl rfl Try.underlying36 rfl sz36 (by first | omega | (simp <;> omega)) rfl) ?_
      refine At.gy (t := 35) rfl rfl rfl rfl ?_
      refine At.q (some 37) (Q_loadA (k := 8) rfl rfl Try.underlying36 rfl sz36 (by first | omega | (simp <;> omega)) rfl) ?_
      refine At.gy (t := 35) rfl rfl rfl rfl ?_
      refine At.p (some 38) (P_eql_arr rfl Try.underlying36 Try.underlying5 sz5 Try.eqGuardType36 rfl rfl (tagS_len _ _) (by simp)) ?_
      refine At.p (some 39) (P_pick_t rfl rfl rfl rfl) ?_
      refine At.p (some 4) (P_assign rfl rfl) ?_
      refine At.nil ?_
      refine At.next ?_
      refine At.ret ?_
      refine At.give (.inl rfl) [] (rows' := []) (vs := [_]) rfl ⟨rfl, trivial⟩ rfl (by simp) (by simp) ⟨congrArg Value.bool (by rw [ones hn hk]; simp [want, hk0, hn4]), rfl⟩
    · -- cond 29 f
      have hn4 : ¬ 4 ≤ n := by simp at h29; omega
      refine At.skip ?_
      refine At.next ?_
      refine At.seq ?_
      refine At.region ?_
      refine At.s (S_callV (some 34) [] [] (vs := []) rfl en20 rfl V0 (by simp) (c_tags) (by rintro _ _ ⟨rfl, rfl⟩; rfl) ?_)
      rintro _ _ ⟨rfl, rfl⟩
      refine At.p (some 35) (P_move rfl rfl) ?_
      refine At.gy (t := 35) rfl rfl rfl rfl ?_
      refine At.q (some 36) (Q_loadA (k := 7) rfl rfl Try.underlying36 rfl sz36 (by first | omega | (simp <;> omega)) rfl) ?_
      refine At.gy (t := 35) rfl rfl rfl rfl ?_
      refine At.q (some 37) (Q_loadA (k := 8) rfl rfl Try.underlying36 rfl sz36 (by first | omega | (simp <;> omega)) rfl) ?_
      refine At.gy (t := 35) rfl rfl rfl rfl ?_
      refine At.p (some 38) (P_eql_arr rfl Try.underlying36 Try.underlying5 sz5 Try.eqGuardType36 rfl rfl (tagS_len _ _) (by simp)) ?_
      refine At.p (some 39) (P_pick_t rfl rfl rfl rfl) ?_
      refine At.p (some 4) (P_assign rfl rfl) ?_
      refine At.nil ?_
      refine At.next ?_
      refine At.ret ?_
      refine At.give (.inl rfl) [] (rows' := []) (vs := [_]) rfl ⟨rfl, trivial⟩ rfl (by simp) (by simp) ⟨congrArg Value.bool (by rw [ones hn hk]; simp [want, hk0, hn4]), rfl⟩
  · -- cond 25 f
    have hk0 : ¬ 0 < k := by simp at h25; omega
    refine At.skip ?_
    refine At.next ?_
    refine At.seq ?_
    refine At.seq ?_
    refine At.region ?_
    refine At.p (some 28) (P_move rfl rfl) ?_
    refine At.p (some 29) (P_cmp rfl rfl rfl rfl rfl rfl) ?_
    refine At.nil ?_
    refine At.next ?_
    refine At.cond rfl (fun h29 => ?_) (fun h29 => ?_)
    · -- cond 29 t
      have hn4 : 4 ≤ n := by simp at h29; omega
      refine At.region ?_
      refine At.p (some 30) (P_indexAddr_arr1 (j := 0) rfl Try.underlying36 sz5 rfl rfl rfl (by decide)) ?_
      refine At.q (some 31) (Q_loadM (k := 8) (0#8) rfl rfl Try.underlying5 rfl rfl (by first | omega | (simp <;> omega))) ?_
      refine At.p (some 32) (P_add_w UK.u8 (b := 5#8) rfl rfl rfl) ?_
      refine At.p (some 33) (P_indexAddr_arr1 (j := 0) rfl Try.underlying36 sz5 rfl rfl rfl (by decide)) ?_
      refine At.s (S_storeM none (f := u8V) (k := 8) rfl rfl rfl sz5 rfl rfl rfl (by first | omega | (simp <;> omega)) ?_)
      refine At.nil ?_
      refine At.next ?_
      refine At.seq ?_
      refine At.region ?_
      refine At.s (S_callV (some 34) [] [] (vs := []) rfl en20 rfl V0 (by simp) (c_tags) (by rintro _ _ ⟨rfl, rfl⟩; rfl) ?_)
      rintro _ _ ⟨rfl, rfl⟩
      refine At.p (some 35) (P_move rfl rfl) ?_
      refine At.gy (t := 35) rfl rfl rfl rfl ?_
      refine At.q (some 36) (Q_loadA (k := 7) rfl rfl Try.underlying36 rfl sz36 (by first | omega | (simp <;> omega)) rfl) ?_
      refine At.gy (t := 35) rfl rfl rfl rfl ?_
      refine At.q (some 37) (Q_loadA (k := 8) rfl rfl Try.underlying36 rfl sz36 (by first | omega | (simp <;> omega)) rfl) ?_
      refine At.gy (t := 35) rfl rfl rfl rfl ?_
      refine At.p (some 38) (P_eql_arr rfl Try.underlying36 Try.underlying5 sz5 Try.eqGuardType36 rfl rfl (tagS_len _ _) (by simp)) ?_
      refine At.p (some 39) (P_pick_t rfl rfl rfl rfl) ?_
      refine At.p (some 4) (P_assign rfl rfl) ?_
      refine At.nil ?_
      refine At.next ?_
      refine At.ret ?_
      refine At.give (.inl rfl) [] (rows' := []) (vs := [_]) rfl ⟨rfl, trivial⟩ rfl (by simp) (by simp) ⟨congrArg Value.bool (by rw [ones hn hk]; simp [want, hk0, hn4]), rfl⟩
    · -- cond 29 f
      have hn4 : ¬ 4 ≤ n := by simp at h29; omega
      refine At.skip ?_
      refine At.next ?_
      refine At.seq ?_
      refine At.region ?_
      refine At.s (S_callV (some 34) [] [] (vs := []) rfl en20 rfl V0 (by simp) (c_tags) (by rintro _ _ ⟨rfl, rfl⟩; rfl) ?_)
      rintro _ _ ⟨rfl, rfl⟩
      refine At.p (some 35) (P_move rfl rfl) ?_
      refine At.gy (t := 35) rfl rfl rfl rfl ?_
      refine At.q (some 36) (Q_loadA (k := 7) rfl rfl Try.underlying36 rfl sz36 (by first | omega | (simp <;> omega)) rfl) ?_
      refine At.gy (t := 35) rfl rfl rfl rfl ?_
      refine At.q (some 37) (Q_loadA (k := 8) rfl rfl Try.underlying36 rfl sz36 (by first | omega | (simp <;> omega)) rfl) ?_
      refine At.gy (t := 35) rfl rfl rfl rfl ?_
      refine At.p (some 38) (P_eql_arr rfl Try.underlying36 Try.underlying5 sz5 Try.eqGuardType36 rfl rfl (tagS_len _ _) (by simp)) ?_
      refine At.p (some 39) (P_pick_t rfl rfl rfl rfl) ?_
      refine At.p (some 4) (P_assign rfl rfl) ?_
      refine At.nil ?_
      refine At.next ?_
      refine At.ret ?_
      refine At.give (.inl rfl) [] (rows' := []) (vs := [_]) rfl ⟨rfl, trivial⟩ rfl (by simp) (by simp) ⟨congrArg Value.bool (by rw [ones hn hk]; simp [want, hk0, hn4]), rfl⟩
end Go.Proofs.Ytkdkpjnlknofeaa
