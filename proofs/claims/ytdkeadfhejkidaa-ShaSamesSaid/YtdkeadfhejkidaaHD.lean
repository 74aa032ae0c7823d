import Derived.Test.YtdkeadfhejkidaaHC
namespace Go.Proofs.Ytdkeadfhejkidaa
set_option maxRecDepth 20000
set_option linter.unusedVariables false
set_option linter.unusedSimpArgs false
open Go.SE Go.RowKit
theorem c_mixN {s : List (BitVec 32)} {A A2 : Option Addr} {b : List (BitVec 8)} {n ca bq q ck bk qk : Nat} (hn : b.length = n) (hs : s.length = 8) (h64 : 64 ≤ n) (hA : 0 < n → A = some ⟨bq, q, none⟩) (hca : n ≤ ca) (hA2 : A2 = some ⟨bk, qk, none⟩) (hck : 64 ≤ ck) : Con Try.prog 28 [agg32 s, .slice A n ca, .slice A2 64 ck] [pRow bq q b, w32 bk qk KK] (fun v rs => v = agg32 (mixB s b) ∧ rs = []) := by
  subst hn
  exact c_mix s A A2 b ca bq q ck bk qk hs h64 hA hca hA2 hck
theorem bsum_out (h : List (BitVec 32)) {i : Nat} (hi : i < 32) : (h.getD (i / 4) 0#32 >>> (24 - 8 * ((i : Int) % 4)).toNat).setWidth 8 = outB h i := by
  rw [show (24 - 8 * ((i : Int) % 4)).toNat = 24 - 8 * (i % 4) by omega]
  rfl

theorem c_padded (A : Option Addr) (l : List (BitVec 8)) (ca bq q : Nat) (hA : 0 < l.length → A = some ⟨bq, q, none⟩) (hl : l.length ≤ 1000000) :
    Con Try.prog 27 [.slice A l.length ca] [pRow bq q l] (fun v rs => ∃ A b c, (0 < c → A = some ⟨b, 0, none⟩) ∧ (padS l).length ≤ c ∧ v = .slice A (padS l).length c ∧ rs = [⟨true, b, 0, 5, (padS l).map u8V, c - (padS l).length⟩]) := by
  refine Con.enter Try.func27 Try.ntmps27 (Nat.le_of_ble_eq_true rfl) rfl fun w => ?_
  refine At.seq ?_
  refine At.region ?_
  refine At.p (some 2) (P_assign rfl rfl) ?_
  refine At.nil ?_
  refine At.next ?_
  refine At.seq ?_
  refine At.region ?_
  refine At.s (S_buildSlice0 (some 6) 6 rfl Try.underlying22 sz5 (fun b6 => ?_))
  refine At.p (some 7) (P_move rfl rfl) ?_
  refine At.s (S_appendM (some 8) 6 (l) (f := u8V) (l := []) (L := l) rfl Try.underlying22 Try.underlying22 (.inr ⟨_, rfl⟩) sz5 by5 ze5 rfl rfl (fun h => ⟨absurd h (by omega), rfl⟩) rfl rfl (Src.row (k := 0) (j := 0) rfl hA (fun _ => ⟨rfl, rfl, rfl⟩) (by simp [pRow, List.take_of_length_le]) (by simp)) (fun _ => rfl) (by omega) (by omega) rfl rfl ?_)
  intro A8 b8 c8 g8a g8b
  refine At.s (S_buildSliceV (some 9) 9 ([128#8].map u8V) rfl Try.underlying22 sz5 ze5 rfl rfl (by decide) (by decide) rfl rfl (fun b9 => ?_))
  refine At.s (S_appendM (some 10) 6 (padA l 0) (f := u8V) (l := l) (L := [128#8]) rfl Try.underlying22 Try.underlying22 (.inr ⟨_, rfl⟩) sz5 by5 ze5 rfl rfl (fun h => ⟨g8a h, rfl⟩) rfl (by omega) (Src.row (k := 9) (j := 0) rfl (fun _ => rfl) (fun _ => ⟨rfl, rfl, rfl⟩) rfl rfl) (fun _ => rfl) (by omega) (by omega) rfl rfl ?_)
  intro A3 b3 c3 hA3 hc3
  refine At.p (some 3) (P_assign rfl rfl) ?_
  refine At.nil ?_
  refine At.next ?_
  refine At.seq ?_
  refine At.block ?_
  refine At.loopx (I := fun m fr H => ∃ (z b3 c3 : Nat) (A3 : Option Addr), m = padZ l.length - z ∧ fr = frOf [(0, .slice A l.length ca), (3, .slice A3 (padA l z).length c3)] ∧ H = hOf [(0, pRow bq q l), (6, ⟨true, b3, 0, 5, (padA l z).map u8V, c3 - (padA l z).length⟩)] ∧ z ≤ padZ l.length ∧ (0 < c3 → A3 = some ⟨b3, 0, none⟩) ∧ (padA l z).length ≤ c3) ?_ ?_
  · intro Kc0 hKc0
    refine At.to [(0, _), (3, _)] [(0, _), (6, ⟨true, b3, 0, 5, (padA l 0).map u8V, c3 - (padA l 0).length⟩)] (AllL.cons_ (rfl) (AllL.cons_ (rfl) trivial)) (AllL.cons_ (rfl) (AllL.cons_ (rfl) trivial)) ?_
    exact hKc0 _ _ _ ⟨0, b3, c3, A3, rfl, rfl, rfl, by omega, hA3, hc3⟩
  · rintro m fr H ⟨z, b3, c3, A3, rfl, rfl, rfl, hz, hA3, hc3⟩ Kc0 hKc0
    refine At.seq ?_
    refine At.seq ?_
    refine At.region ?_
    refine At.p (some 11) (P_move rfl rfl) ?_
    refine At.p (some 12) (P_len_sl rfl rfl ⟨_, Try.underlying22⟩ rfl) ?_
    refine At.p (some 13) (P_rem_i rfl rfl rfl (by omega) (by first | decide | omega)) ?_
    refine At.p (some 14) (P_cmp rfl rfl rfl rfl rfl rfl) ?_
    refine At.nil ?_
    refine At.next ?_
    refine At.cond rfl (fun h14 => ?_) (fun h14 => ?_)
    · -- cond 14 t
      have hpl := padA_len l z
      have hzl := padZ_lt l.length
      have hlt : z < padZ l.length := by
        have h2 : ¬ ((padA l z).length : Int) % 64 = 56 := by simpa using h14
        unfold padZ at *
        omega
      refine At.skip ?_
      refine At.next ?_
      refine At.block ?_
      refine At.region ?_
      refine At.p (some 15) (P_move rfl rfl) ?_
      refine At.s (S_buildSliceV (some 16) 16 ([0#8].map u8V) rfl Try.underlying22 sz5 ze5 rfl rfl (by decide) (by decide) rfl rfl (fun b16 => ?_))
      refine At.s (S_appendM (some 17) 6 (padA l (z + 1)) (f := u8V) (l := padA l z) (L := [0#8]) rfl Try.underlying22 Try.underlying22 (.inr ⟨_, rfl⟩) sz5 by5 ze5 rfl rfl (fun h => ⟨hA3 h, rfl⟩) rfl (by omega) (Src.row (k := 16) (j := 0) rfl (fun _ => rfl) (fun _ => ⟨rfl, rfl, rfl⟩) rfl rfl) (fun _ => rfl) (by omega) (by omega) rfl rfl ?_)
      intro A3 b3 c3 g1 g2
      refine At.p (some 3) (P_assign rfl rfl) ?_
      refine At.nil ?_
      refine At.inb_n ?_
      refine At.next ?_
      refine At.to [(0, _), (3, _)] [(0, _), (6, _)] (AllL.cons_ (rfl) (AllL.cons_ (rfl) trivial)) (AllL.cons_ (rfl) (AllL.cons_ (rfl) trivial)) ?_
      exact hKc0 _ _ _ (by omega) ⟨z + 1, _, _, _, rfl, rfl, rfl, by omega, g1, g2⟩
    · -- cond 14 f
      have hpl := padA_len l z
      have h2 : ((padA l z).length : Int) % 64 = 56 := by simpa using h14
      have hze : z = padZ l.length := by
        unfold padZ at *
        omega
      subst hze
      have hzl := padZ_lt l.length
      refine At.exit ?_
      refine At.thn_e ?_
      refine At.thn_e ?_
      refine At.inb_hit ?_
      refine At.next ?_
      refine At.seq ?_
      refine At.region ?_
      refine At.p (some 18) (P_move rfl rfl) ?_
      refine At.p (some 19) (P_len_sl rfl rfl ⟨_, Try.underlying22⟩ rfl) ?_
      refine At.p (some 20) (P_conv_iw UK.u64 rfl Try.underlying3 Try.underlying23 rfl) ?_
      refine At.p (some 21) (P_mul_w UK.u64 (a := 8#64) rfl rfl rfl) ?_
      refine At.p (some 4) (P_assign rfl rfl) ?_
      refine At.nil ?_
      refine At.next ?_
      refine At.seq ?_
      refine At.seq ?_
      refine At.region ?_
      refine At.p (some 5) (P_assign rfl rfl) ?_
      refine At.nil ?_
      refine At.next ?_
      refine At.block ?_
      refine At.loopx (I := fun m fr H => ∃ (e b3 c3 : Nat) (A3 : Option Addr), m = 8 - e ∧ fr = frOf [(3, .slice A3 (padC l e).length c3), (4, u64V (bits8 l.length)), (5, iV (7 - (e : Int)))] ∧ H = hOf [(6, ⟨true, b3, 0, 5, (padC l e).map u8V, c3 - (padC l e).length⟩)] ∧ e ≤ 8 ∧ (0 < c3 → A3 = some ⟨b3, 0, none⟩) ∧ (padC l e).length ≤ c3) ?_ ?_
      · intro Kc1 hKc1
        refine At.to [(3, .slice A3 (padC l 0).length c3), (4, _), (5, iV (7 - ((0 : Nat) : Int)))] [(6, ⟨true, b3, 0, 5, (padC l 0).map u8V, c3 - (padC l 0).length⟩)] (AllL.cons_ (rfl) (AllL.cons_ (rfl) (AllL.cons_ (rfl) trivial))) (AllL.cons_ (rfl) trivial) ?_
        exact hKc1 _ _ _ ⟨0, b3, c3, A3, rfl, rfl, rfl, by omega, hA3, hc3⟩
      · rintro m fr H ⟨e, b3, c3, A3, rfl, rfl, rfl, he, hA3, hc3⟩ Kc1 hKc1
        refine At.seq ?_
        refine At.seq ?_
        refine At.region ?_
        refine At.p (some 22) (P_move rfl rfl) ?_
        refine At.p (some 23) (P_cmp rfl rfl rfl rfl rfl rfl) ?_
        refine At.nil ?_
        refine At.next ?_
        refine At.cond rfl (fun h23 => ?_) (fun h23 => ?_)
        · -- cond 23 t
          have hlt : e < 8 := by simp at h23; omega
          have hpl := padC_len l e
          have hzl := padZ_lt l.length
          refine At.skip ?_
          refine At.next ?_
          refine At.seq ?_
          refine At.block ?_
          refine At.region ?_
          refine At.p (some 26) (P_move rfl rfl) ?_
          refine At.p (some 27) (P_move rfl rfl) ?_
          refine At.p (some 28) (P_move rfl rfl) ?_
          refine At.p (some 29) (P_mul_i rfl rfl rfl (by omega)) ?_
          refine At.p (some 30) (P_shr_w UK.u64 (n := 64) rfl rfl rfl (by first | decide | omega)) ?_
          refine At.p (some 31) (P_conv_ww UK.u8 (m := 64) rfl Try.underlying23 Try.underlying5 rfl) ?_
          refine At.s (S_buildSliceV (some 32) 32 ([(bits8 l.length >>> (8 * (7 - (e : Int))).toNat).setWidth 8].map u8V) rfl Try.underlying22 sz5 ze5 rfl rfl (by decide) (by decide) rfl rfl (fun b32 => ?_))
          refine At.s (S_appendM (some 33) 6 (padC l (e + 1)) (f := u8V) (l := padC l e) (L := [(bits8 l.length >>> (8 * (7 - (e : Int))).toNat).setWidth 8]) rfl Try.underlying22 Try.underlying22 (.inr ⟨_, rfl⟩) sz5 by5 ze5 rfl rfl (fun h => ⟨hA3 h, rfl⟩) rfl (by omega) (Src.row (k := 32) (j := 0) rfl (fun _ => rfl) (fun _ => ⟨rfl, rfl, rfl⟩) rfl rfl) (fun _ => rfl) (by omega) (by omega) (by rw [show (8 * (7 - (e : Int))).toNat = 8 * (7 - e) by omega]; rfl) rfl ?_)
          intro A3 b3 c3 g1 g2
          refine At.p (some 3) (P_assign rfl rfl) ?_
          refine At.nil ?_
          refine At.inb_n ?_
          refine At.next ?_
          refine At.region ?_
          refine At.p (some 24) (P_move rfl rfl) ?_
          refine At.p (some 25) (P_sub_i rfl rfl rfl (by omega)) ?_
          refine At.p (some 5) (P_assign rfl rfl) ?_
          refine At.nil ?_
          refine At.next ?_
          refine At.to [(3, _), (4, _), (5, iV (7 - ((e + 1 : Nat) : Int)))] [(6, _)] (AllL.cons_ (rfl) (AllL.cons_ (rfl) (AllL.cons_ (congrArg (fun z => some (iV z)) (by omega)) trivial))) (AllL.cons_ (rfl) trivial) ?_
          exact hKc1 _ _ _ (by omega) ⟨e + 1, _, _, _, rfl, rfl, rfl, by omega, g1, g2⟩
        · -- cond 23 f
          obtain rfl : e = 8 := by simp at h23; omega
          refine At.exit ?_
          refine At.thn_e ?_
          refine At.thn_e ?_
          refine At.inb_hit ?_
          refine At.next ?_
          refine At.seq ?_
          refine At.region ?_
          refine At.p (some 34) (P_move rfl rfl) ?_
          refine At.p (some 2) (P_assign rfl rfl) ?_
          refine At.nil ?_
          refine At.next ?_
          refine At.ret ?_
          refine At.give (.inl rfl) [6] (rows' := [_]) (vs := [_]) rfl ⟨rfl, trivial⟩ rfl (by simp) (by simp) ⟨A3, b3, c3, hA3, by rw [padC_8] at hc3; exact hc3, by rw [padC_8]; rfl, by rw [padC_8]⟩

theorem c_Sum (A : Option Addr) (l : List (BitVec 8)) (ca bq q : Nat) (hA : 0 < l.length → A = some ⟨bq, q, none⟩) (hl : l.length ≤ 1000000) :
    Con Try.prog 15 [.slice A l.length ca] [pRow bq q l] (fun v rs => v = aggK (sumS l) ∧ rs = []) := by
  refine Con.enter Try.func15 Try.ntmps15 (Nat.le_of_ble_eq_true rfl) rfl fun w => ?_
  refine At.seq ?_
  have hpm := padS_mod l
  have hpl := padS_len l
  have hzl := padZ_lt l.length
  refine At.region ?_
  refine At.s (S_alloc (some 2) 2 (zs := (List.replicate 32 0#8).map u8V) rfl ze25 rfl (fun b2 => ?_))
  refine At.nil ?_
  refine At.next ?_
  refine At.seq ?_
  refine At.region ?_
  refine At.s (S_alloc (some 3) 3 (zs := (List.replicate 8 0#32).map u32V) rfl ze45 rfl (fun b3 => ?_))
  refine At.nil ?_
  refine At.next ?_
  refine At.seq ?_
  refine At.draws 2 [] [.q false [0], .e false 1] (by kernel_rfl) (by kernel_rfl) ?_
  refine At.wp (some 8) (P_slice_arr1 rfl Try.underlying45 sz44 rfl rfl rfl rfl (by omega) (by omega) (by omega) (by omega)) ?_
  refine At.wqn ?_
  refine At.we ?_
  refine SStep.up (S_callV (some 9) [] [9] (vs := [_, _]) rfl en26 rfl V0 (by simp) (c_roots 8 false (by decide)) (by rintro _ _ ⟨A9, b9, c9, g9a, g9b, rfl, rfl⟩; rfl) ?_)
  rintro _ _ ⟨A9, b9, c9, g9a, g9b, rfl, rfl⟩
  rw [roots8]
  refine At.wt rfl ?_
  refine At.s (S_copyM (some 10) 3 9 (S := (List.replicate 8 0#32)) (j := 0) (n := 8) (L := H0) (p := 0) (m := 8) rfl Try.underlying46 sz44 rfl (fun _ => rfl) rfl rfl (fun h => g9a (by omega)) (fun h => ⟨rfl, rfl, rfl⟩) rfl rfl rfl (fun _ => rfl) (by decide) ?_)
  rw [show splice (List.replicate 8 0#32) 0 H0 = H0 from rfl]
  refine At.nil ?_
  refine At.next ?_
  refine At.seq ?_
  refine At.region ?_
  refine At.s (S_callV (some 11) [] [11] (vs := [_, _]) rfl en26 rfl V0 (by simp) (c_roots 64 true (by decide)) (by rintro _ _ ⟨A11, b11, c11, g11a, g11b, rfl, rfl⟩; rfl) ?_)
  rintro _ _ ⟨A11, b11, c11, g11a, g11b, rfl, rfl⟩
  rw [roots64]
  refine At.p (some 4) (P_assign rfl rfl) ?_
  refine At.nil ?_
  refine At.next ?_
  refine At.seq ?_
  refine At.seq ?_
  refine At.region ?_
  refine At.p (some 12) (P_move rfl rfl) ?_
  refine At.s (S_callV (some 13) [(0, _)] [13] (vs := [_]) rfl en27 rfl (VN (by simp) rfl View.all V0) (by simp) (c_padded A l ca bq q hA hl) (by rintro _ _ ⟨A13, b13, c13, g13a, g13b, rfl, rfl⟩; rfl) ?_)
  rintro _ _ ⟨A13, b13, c13, g13a, g13b, rfl, rfl⟩
  refine At.p (some 5) (P_assign rfl rfl) ?_
  refine At.nil ?_
  refine At.next ?_
  refine At.block ?_
  refine At.loopx (I := fun m fr H => ∃ (n cn : Nat) (An : Option Addr), m = (padS l).length + 64 - 64 * n ∧ fr = frOf [(2, ptr b2 0), (3, ptr b3 0), (4, .slice A11 64 c11), (5, .slice An ((padS l).length - 64 * n) cn)] ∧ H = hOf [(2, ⟨true, b2, 0, 25, (List.replicate 32 0#8).map u8V, 0⟩), (3, ⟨true, b3, 0, 45, (hTo l n).map u32V, 0⟩), (11, ⟨true, b11, 0, 44, KK.map u32V, c11 - 64⟩), (13, ⟨true, b13, 0, 5, (padS l).map u8V, c13 - (padS l).length⟩)] ∧ (64 * n < (padS l).length → An = some ⟨b13, 64 * n, none⟩) ∧ (padS l).length - 64 * n ≤ cn ∧ 64 * n ≤ (padS l).length) ?_ ?_
  · intro Kc0 hKc0
    refine At.to [(2, _), (3, _), (4, _), (5, _)] [(2, _), (3, ⟨true, b3, 0, 45, (hTo l 0).map u32V, 0⟩), (11, _), (13, _)] (AllL.cons_ (rfl) (AllL.cons_ (rfl) (AllL.cons_ (rfl) (AllL.cons_ (rfl) trivial)))) (AllL.cons_ (rfl) (AllL.cons_ (rfl) (AllL.cons_ (rfl) (AllL.cons_ (rfl) trivial)))) ?_
    exact hKc0 _ _ _ ⟨0, c13, A13, rfl, rfl, rfl, fun h => g13a (by omega), by omega, by omega⟩
  · rintro m fr H ⟨n, cn, An, rfl, rfl, rfl, hAn, hcn, hnn⟩ Kc0 hKc0
    refine At.seq ?_
    refine At.seq ?_
    refine At.region ?_
    refine At.p (some 14) (P_move rfl rfl) ?_
    refine At.p (some 15) (P_len_sl rfl rfl ⟨_, Try.underlying22⟩ rfl) ?_
    refine At.p (some 16) (P_cmp rfl rfl rfl rfl rfl rfl) ?_
    refine At.nil ?_
    refine At.next ?_
    refine At.cond rfl (fun h16 => ?_) (fun h16 => ?_)
    · -- cond 16 t
      have hlt : 64 * n < (padS l).length := by simp at h16; omega
      have hhl := hTo_len l n
      have hml : (mixB (hTo l n) (blk l n)).length = 8 := addTo_len _ _ _
      refine At.skip ?_
      refine At.next ?_
      refine At.seq ?_
      refine At.block ?_
      refine At.region ?_
      refine At.q (some 19) (Q_loadA (k := 3) rfl rfl Try.underlying45 rfl sz45 (by first | omega | (simp <;> omega)) rfl) ?_
      refine At.p (some 20) (P_move rfl rfl) ?_
      refine At.p (some 21) (P_move rfl rfl) ?_
      refine At.s (S_callV (some 22) [(13, _), (11, _)] [] (vs := [_, _, _]) rfl en28 rfl (VN (by simp) rfl (View.sub (j := 64 * n) (m := (padS l).length - 64 * n) (by omega) (by rw [List.take_of_length_le (by simp)]; rfl)) (VN (by simp) rfl View.all V0)) (by simp) (c_mixN (s := hTo l n) (b := blk l n) (n := (padS l).length - 64 * n) (by simp [blk]) (hTo_len l n) (by omega) (fun h => hAn (by omega)) hcn (g11a (by omega)) g11b) (by rintro _ _ ⟨rfl, rfl⟩; rfl) ?_)
      rintro _ _ ⟨rfl, rfl⟩
      refine At.s (S_storeA none (k := 3) (vs := _) rfl rfl rfl (by first | (rw [sz45]; simp <;> omega) | exact sz45) rfl (by first | (intro u hu; obtain ⟨z, _, rfl⟩ := List.mem_map.1 hu; rfl) | simp [Value.oneCell']) (by first | (simp; done) | (intro h; have h2 := congrArg List.length h; simp only [List.length_map, List.length_nil] at h2; omega) | (intro h; cases h)) rfl (by first | omega | (simp <;> omega) | rfl | (simp [*]; done)) ?_)
      refine At.nil ?_
      refine At.inb_n ?_
      refine At.next ?_
      refine At.region ?_
      refine At.p (some 17) (P_move rfl rfl) ?_
      refine At.p (some 18) (P_slice_sl (l := 64) rfl Try.underlying22 sz5 rfl ⟨_, _, rfl, rfl⟩ rfl rfl (by omega) (by omega) (by omega)) ?_
      refine At.p (some 5) (P_assign rfl rfl) ?_
      refine At.nil ?_
      refine At.next ?_
      refine At.to [(2, _), (3, _), (4, _), (5, .slice (cut An 64 cn 1) ((padS l).length - 64 * (n + 1)) (cn - 64))] [(2, _), (3, ⟨true, b3, 0, 45, (hTo l (n + 1)).map u32V, 0⟩), (11, _), (13, _)] (AllL.cons_ (rfl) (AllL.cons_ (rfl) (AllL.cons_ (rfl) (AllL.cons_ (congrArg (fun z => some (Value.slice (cut An 64 cn 1) z (cn - 64))) (by omega)) trivial)))) (AllL.cons_ (rfl) (AllL.cons_ (rfl) (AllL.cons_ (rfl) (AllL.cons_ (rfl) trivial)))) ?_
      exact hKc0 _ _ _ (by omega) ⟨n + 1, cn - 64, cut An 64 cn 1, rfl, rfl, rfl, fun h => by rw [cut_addr1 (hAn (by omega)) (by omega)]; congr 2, by omega, by omega⟩
    · -- cond 16 f
      obtain rfl : n = nB l := by unfold nB; simp at h16; omega
      have hhl := hTo_len l (nB l)
      refine At.exit ?_
      refine At.thn_e ?_
      refine At.thn_e ?_
      refine At.inb_hit ?_
      refine At.next ?_
      refine At.seq ?_
      refine At.region ?_
      refine At.s (S_alloc (some 6) 6 (zs := (outN (hTo l (nB l)) 0).map u8V) rfl ze25 rfl (fun b6 => ?_))
      refine At.nil ?_
      refine At.next ?_
      refine At.seq ?_
      refine At.seq ?_
      refine At.region ?_
      refine At.p (some 23) (P_move rfl rfl) ?_
      refine At.nil ?_
      refine At.next ?_
      refine At.block ?_
      refine At.loopx (I := fun m fr H => ∃ k, m = 32 - k ∧ fr = frOf [(2, ptr b2 0), (3, ptr b3 0), (6, ptr b6 0), (23, iV (k : Int))] ∧ H = hOf [(2, ⟨true, b2, 0, 25, (List.replicate 32 0#8).map u8V, 0⟩), (3, ⟨true, b3, 0, 45, (hTo l (nB l)).map u32V, 0⟩), (6, ⟨true, b6, 0, 25, (outN (hTo l (nB l)) k).map u8V, 0⟩)] ∧ k ≤ 32) ?_ ?_
      · intro Kc1 hKc1
        refine At.to [(2, _), (3, _), (6, _), (23, _)] [(2, _), (3, _), (6, ⟨true, b6, 0, 25, (outN (hTo l (nB l)) 0).map u8V, 0⟩)] (AllL.cons_ (rfl) (AllL.cons_ (rfl) (AllL.cons_ (rfl) (AllL.cons_ (rfl) trivial)))) (AllL.cons_ (rfl) (AllL.cons_ (rfl) (AllL.cons_ (rfl) trivial))) ?_
        exact hKc1 _ _ _ ⟨0, rfl, rfl, rfl, by omega⟩
      · rintro m fr H ⟨k, rfl, rfl, rfl, hk⟩ Kc1 hKc1
        refine At.seq ?_
        refine At.region ?_
        refine At.p (some 24) (P_cmp rfl rfl rfl rfl rfl rfl) ?_
        refine At.nil ?_
        refine At.next ?_
        refine At.seq ?_
        refine At.cond rfl (fun h24 => ?_) (fun h24 => ?_)
        · -- cond 24 t
          have hlt : k < 32 := by simp at h24; omega
          have hol := outN_len (hTo l (nB l)) hk
          refine At.skip ?_
          refine At.next ?_
          refine At.seq ?_
          refine At.block ?_
          refine At.seq ?_
          refine At.region ?_
          refine At.p (some 25) (P_move rfl rfl) ?_
          refine At.p (some 7) (P_assign rfl rfl) ?_
          refine At.nil ?_
          refine At.next ?_
          refine At.region ?_
          refine At.p (some 26) (P_move rfl rfl) ?_
          refine At.p (some 27) (P_move rfl rfl) ?_
          refine At.p (some 28) (P_quo_i rfl rfl rfl (by omega) (by omega) (by first | decide | omega)) ?_
          refine At.p (some 29) (P_indexAddr_arr1 (j := k / 4) rfl Try.underlying45 sz44 rfl rfl (by omega) (by omega)) ?_
          refine At.q (some 30) (Q_loadM (k := 3) (0#32) rfl rfl Try.underlying44 rfl rfl (by first | omega | (simp <;> omega))) ?_
          refine At.p (some 31) (P_move rfl rfl) ?_
          refine At.p (some 32) (P_rem_i rfl rfl rfl (by omega) (by first | decide | omega)) ?_
          refine At.p (some 33) (P_mul_i rfl rfl rfl (by omega)) ?_
          refine At.p (some 34) (P_sub_i rfl rfl rfl (by omega)) ?_
          refine At.p (some 35) (P_shr_w UK.u32 (n := 32) rfl rfl rfl (by first | decide | omega)) ?_
          refine At.p (some 36) (P_conv_ww UK.u8 (m := 32) rfl Try.underlying44 Try.underlying5 rfl) ?_
          refine At.p (some 37) (P_indexAddr_arr1 rfl Try.underlying25 sz5 rfl rfl rfl (by omega)) ?_
          refine At.s (S_storeM none (f := u8V) (k := 6) rfl rfl rfl sz5 rfl rfl rfl (by first | omega | (simp <;> omega)) ?_)
          refine At.nil ?_
          refine At.inb_n ?_
          refine At.next ?_
          refine At.region ?_
          refine At.p (some 38) (P_add_i rfl rfl rfl (by omega)) ?_
          refine At.p (some 23) (P_move rfl rfl) ?_
          refine At.nil ?_
          refine At.next ?_
          refine At.to [(2, _), (3, _), (6, _), (23, _)] [(2, _), (3, _), (6, ⟨true, b6, 0, 25, (outN (hTo l (nB l)) (k + 1)).map u8V, 0⟩)] (AllL.cons_ (rfl) (AllL.cons_ (rfl) (AllL.cons_ (rfl) (AllL.cons_ (rfl) trivial)))) (AllL.cons_ (rfl) (AllL.cons_ (rfl) (AllL.cons_ (congrArg (fun z => some (⟨true, b6, 0, 25, List.map u8V z, 0⟩ : Row)) (by rw [← outN_set _ hlt, ← bsum_out _ hlt])) trivial))) ?_
          exact hKc1 _ _ _ (by omega) ⟨k + 1, rfl, rfl, rfl, by omega⟩
        · -- cond 24 f
          obtain rfl : k = 32 := by simp at h24; omega
          have hol := outN_len (hTo l (nB l)) hk
          refine At.exit ?_
          refine At.thn_e ?_
          refine At.thn_e ?_
          refine At.inb_hit ?_
          refine At.next ?_
          refine At.seq ?_
          refine At.region ?_
          refine At.q (some 39) (Q_loadA (k := 6) rfl rfl Try.underlying25 rfl sz25 (by first | omega | (simp <;> omega)) rfl) ?_
          refine At.s (S_storeA none (k := 2) (vs := _) rfl rfl rfl (by first | (rw [sz25]; simp <;> omega) | exact sz25) rfl (by first | (intro u hu; obtain ⟨z, _, rfl⟩ := List.mem_map.1 hu; rfl) | simp [Value.oneCell']) (by first | (simp; done) | (intro h; have h2 := congrArg List.length h; simp only [List.length_map, List.length_nil] at h2; omega) | (intro h; cases h)) rfl (by first | omega | (simp <;> omega) | rfl | (simp [*]; done)) ?_)
          refine At.nil ?_
          refine At.next ?_
          refine At.ret ?_
          refine At.giveV (.inl rfl) [] (rows' := []) (ResV.cellA (k := 2) rfl rfl Try.underlying25 rfl sz25 (by first | (simp <;> omega) | rfl | (simp [*]; done)) rfl) rfl (by simp) (by simp) ?_
          exact ⟨by rw [outN_fin]; rfl, rfl⟩

theorem c_SumN {A : Option Addr} {l : List (BitVec 8)} {n ca bq q : Nat} (hn : l.length = n) (hA : 0 < n → A = some ⟨bq, q, none⟩) (hl : n ≤ 1000000) : Con Try.prog 15 [.slice A n ca] [pRow bq q l] (fun v rs => v = aggK (sumS l) ∧ rs = []) := by
  subst hn
  exact c_Sum A l ca bq q hA hl

theorem c_Same (A A2 : Option Addr) (a b : List (BitVec 8)) (ca cb bq q br r : Nat) (hA : 0 < a.length → A = some ⟨bq, q, none⟩) (hB : 0 < b.length → A2 = some ⟨br, r, none⟩) (hl : a.length ≤ 281474976710656) :
    Con Try.prog 17 [.slice A a.length ca, .slice A2 b.length cb] [pRow bq q a, pRow br r b] (fun v rs => v = .bool (decide (a = b)) ∧ rs = []) := by
  refine Con.enter Try.func17 Try.ntmps17 (Nat.le_of_ble_eq_true rfl) rfl fun w => ?_
  refine At.seq ?_
  refine At.region ?_
  refine At.p (some 4) (P_assign rfl rfl) ?_
  refine At.nil ?_
  refine At.next ?_
  refine At.seq ?_
  refine At.seq ?_
  refine At.region ?_
  refine At.p (some 8) (P_move rfl rfl) ?_
  refine At.p (some 9) (P_len_sl rfl rfl ⟨_, Try.underlying22⟩ rfl) ?_
  refine At.p (some 10) (P_move rfl rfl) ?_
  refine At.p (some 11) (P_len_sl rfl rfl ⟨_, Try.underlying22⟩ rfl) ?_
  refine At.p (some 12) (P_cmp rfl rfl rfl rfl rfl rfl) ?_
  refine At.nil ?_
  refine At.next ?_
  refine At.cond rfl (fun h12 => ?_) (fun h12 => ?_)
  · -- cond 12 t
    have hne : a.length ≠ b.length := by
      intro hh
      rw [hh] at h12
      simp at h12
    refine At.seq ?_
    refine At.region ?_
    refine At.p (some 4) (P_assign rfl rfl) ?_
    refine At.nil ?_
    refine At.next ?_
    refine At.ret ?_
    refine At.thn_r ?_
    refine At.give (.inl rfl) [] (rows' := []) (vs := [_]) rfl ⟨rfl, trivial⟩ rfl (by simp) (by simp) ⟨congrArg Value.bool (by rw [decide_eq_false]; intro hh; exact hne (congrArg _ hh)), rfl⟩
  · -- cond 12 f
    have hle : a.length = b.length := by simp at h12; omega
    refine At.skip ?_
    refine At.next ?_
    refine At.seq ?_
    refine At.region ?_
    refine At.p (some 5) (P_assign rfl rfl) ?_
    refine At.nil ?_
    refine At.next ?_
    refine At.seq ?_
    refine At.seq ?_
    refine At.region ?_
    refine At.p (some 13) (P_move rfl rfl) ?_
    refine At.p (some 14) (P_len_sl rfl rfl ⟨_, Try.underlying22⟩ rfl) ?_
    refine At.p (some 15) (P_move rfl rfl) ?_
    refine At.nil ?_
    refine At.next ?_
    refine At.block ?_
    refine At.loopx (I := fun m fr H => ∃ (i : Nat) (u : BitVec 8), m = a.length - i ∧ fr = frOf [(1, .slice A2 b.length cb), (5, u8V u), (13, .slice A a.length ca), (14, iV (a.length : Int)), (15, iV (i : Int))] ∧ H = hOf [(0, pRow bq q a), (1, pRow br r b)] ∧ i ≤ a.length ∧ (u = 0#8 ↔ a.take i = b.take i)) ?_ ?_
    · intro Kc0 hKc0
      refine At.to [(1, _), (5, _), (13, _), (14, _), (15, _)] [(0, _), (1, _)] (AllL.cons_ (rfl) (AllL.cons_ (rfl) (AllL.cons_ (rfl) (AllL.cons_ (rfl) (AllL.cons_ (rfl) trivial))))) (AllL.cons_ (rfl) (AllL.cons_ (rfl) trivial)) ?_
      exact hKc0 _ _ _ ⟨0, 0#8, rfl, rfl, rfl, by omega, by simp⟩
    · rintro m fr H ⟨i, u, rfl, rfl, rfl, hi, hu⟩ Kc0 hKc0
      refine At.seq ?_
      refine At.region ?_
      refine At.p (some 16) (P_cmp rfl rfl rfl rfl rfl rfl) ?_
      refine At.nil ?_
      refine At.next ?_
      refine At.seq ?_
      refine At.cond rfl (fun h16 => ?_) (fun h16 => ?_)
      · -- cond 16 t
        have hlt : i < a.length := by simp at h16; omega
        refine At.skip ?_
        refine At.next ?_
        refine At.seq ?_
        refine At.block ?_
        refine At.seq ?_
        refine At.region ?_
        refine At.p (some 17) (P_move rfl rfl) ?_
        refine At.p (some 18) (P_indexAddr_sl1 rfl Try.underlying22 sz5 rfl (hA (by omega)) rfl rfl (by omega)) ?_
        refine At.q (some 19) (Q_loadR (l := a) (k := 0) (j := i) (0#8) rfl rfl Try.underlying5 rfl rfl rfl (by omega)) ?_
        refine At.p (some 6) (P_assign rfl rfl) ?_
        refine At.p (some 7) (P_assign rfl rfl) ?_
        refine At.nil ?_
        refine At.next ?_
        refine At.region ?_
        refine At.p (some 20) (P_move rfl rfl) ?_
        refine At.p (some 21) (P_move rfl rfl) ?_
        refine At.p (some 22) (P_move rfl rfl) ?_
        refine At.p (some 23) (P_move rfl rfl) ?_
        refine At.p (some 24) (P_indexAddr_sl1 rfl Try.underlying22 sz5 rfl (hB (by omega)) rfl rfl (by omega)) ?_
        refine At.q (some 25) (Q_loadR (l := b) (k := 1) (j := i) (0#8) rfl rfl Try.underlying5 rfl rfl rfl (by omega)) ?_
        refine At.p (some 26) (P_xor_w UK.u8 rfl rfl rfl) ?_
        refine At.p (some 27) (P_or_w UK.u8 rfl rfl rfl) ?_
        refine At.p (some 5) (P_assign rfl rfl) ?_
        refine At.nil ?_
        refine At.inb_n ?_
        refine At.next ?_
        refine At.region ?_
        refine At.p (some 28) (P_add_i rfl rfl rfl (by omega)) ?_
        refine At.p (some 15) (P_move rfl rfl) ?_
        refine At.nil ?_
        refine At.next ?_
        refine At.to [(1, _), (5, _), (13, _), (14, _), (15, _)] [(0, _), (1, _)] (AllL.cons_ (rfl) (AllL.cons_ (rfl) (AllL.cons_ (rfl) (AllL.cons_ (rfl) (AllL.cons_ (rfl) trivial))))) (AllL.cons_ (rfl) (AllL.cons_ (rfl) trivial)) ?_
        exact hKc0 _ _ _ (by omega) ⟨i + 1, _, rfl, rfl, rfl, by omega, same_step hlt (by omega) hu⟩
      · -- cond 16 f
        obtain rfl : i = a.length := by simp at h16; omega
        rw [List.take_length, hle, List.take_length] at hu
        refine At.exit ?_
        refine At.thn_e ?_
        refine At.thn_e ?_
        refine At.inb_hit ?_
        refine At.next ?_
        refine At.seq ?_
        refine At.region ?_
        refine At.p (some 29) (P_move rfl rfl) ?_
        refine At.p (some 30) (P_eql_w (n := 8) (b := 0#8) rfl rfl rfl) ?_
        refine At.p (some 4) (P_assign rfl rfl) ?_
        refine At.nil ?_
        refine At.next ?_
        refine At.ret ?_
        refine At.give (.inl rfl) [] (rows' := []) (vs := [_]) rfl ⟨rfl, trivial⟩ rfl (by simp) (by simp) ⟨congrArg Value.bool (by rw [Bool.eq_iff_iff]; simpa using hu), rfl⟩

theorem c_keyed (A : Option Addr) (key : List (BitVec 8)) (x : BitVec 8) (ca bq q : Nat) (hA : 0 < key.length → A = some ⟨bq, q, none⟩) (hk : key.length ≤ 64) :
    Con Try.prog 32 [.slice A key.length ca, u8V x] [pRow bq q key] (fun v rs => ∃ b, v = .slice (some ⟨b, 0, none⟩) 64 64 ∧ rs = [⟨true, b, 0, 5, (keyedS key x).map u8V, 0⟩]) := by
  refine Con.enter Try.func32 Try.ntmps32 (Nat.le_of_ble_eq_true rfl) rfl fun w => ?_
  refine At.seq ?_
  refine At.region ?_
  refine At.p (some 4) (P_assign rfl rfl) ?_
  refine At.nil ?_
  refine At.next ?_
  refine At.seq ?_
  refine At.region ?_
  refine At.s (S_makeN (some 7) 7 (n := 64) (cs := (List.replicate (64) 0#8).map u8V) rfl Try.underlying22 sz5 by5 ze5 rfl rfl (by omega) (by omega) (by omega) (by omega) ((made_one (n := 64) (by omega)).trans (by rw [List.map_replicate]; rfl)) (fun b7 => ?_))
  refine At.p (some 5) (P_assign rfl rfl) ?_
  refine At.nil ?_
  refine At.next ?_
  refine At.seq ?_
  refine At.region ?_
  refine At.p (some 8) (P_move rfl rfl) ?_
  refine At.p (some 9) (P_move rfl rfl) ?_
  refine At.s (S_copyM (some 10) 7 0 (S := List.replicate 64 0#8) (j := 0) (n := key.length) (L := key) (p := 0) (m := key.length) rfl Try.underlying22 sz5 rfl (fun _ => rfl) rfl rfl (fun h => hA h) (fun h => ⟨rfl, rfl, rfl⟩) (by simp [pRow, List.take_of_length_le]) (by omega) rfl (fun _ => rfl) (by simp; omega) ?_)
  rw [splice_key hk]
  refine At.nil ?_
  refine At.next ?_
  refine At.seq ?_
  refine At.seq ?_
  refine At.region ?_
  refine At.p (some 11) (P_move rfl rfl) ?_
  refine At.p (some 12) (P_len_sl rfl rfl ⟨_, Try.underlying22⟩ rfl) ?_
  refine At.p (some 13) (P_move rfl rfl) ?_
  refine At.nil ?_
  refine At.next ?_
  refine At.block ?_
  refine At.loopx (I := fun m fr H => ∃ i, m = 64 - i ∧ fr = frOf [(1, u8V x), (5, .slice (some ⟨b7, 0, none⟩) 64 64), (12, iV (64 : Int)), (13, iV (i : Int))] ∧ H = hOf [(7, ⟨true, b7, 0, 5, (xTo (keyB key) x i).map u8V, 0⟩)] ∧ i ≤ 64) ?_ ?_
  · intro Kc0 hKc0
    refine At.to [(1, _), (5, _), (12, _), (13, _)] [(7, ⟨true, b7, 0, 5, (xTo (keyB key) x 0).map u8V, 0⟩)] (AllL.cons_ (rfl) (AllL.cons_ (rfl) (AllL.cons_ (rfl) (AllL.cons_ (rfl) trivial)))) (AllL.cons_ (congrArg (fun z => some (⟨true, b7, 0, 5, List.map u8V z, 0⟩ : Row)) (xTo_0 _ (keyB_len hk)).symm) trivial) ?_
    exact hKc0 _ _ _ ⟨0, rfl, rfl, rfl, by omega⟩
  · rintro m fr H ⟨i, rfl, rfl, rfl, hi⟩ Kc0 hKc0
    refine At.seq ?_
    refine At.region ?_
    refine At.p (some 14) (P_cmp rfl rfl rfl rfl rfl rfl) ?_
    refine At.nil ?_
    refine At.next ?_
    refine At.seq ?_
    refine At.cond rfl (fun h14 => ?_) (fun h14 => ?_)
    · -- cond 14 t
      have hlt : i < 64 := by simp at h14; omega
      have hxl := xTo_len (keyB key) x i
      refine At.skip ?_
      refine At.next ?_
      refine At.seq ?_
      refine At.block ?_
      refine At.seq ?_
      refine At.region ?_
      refine At.p (some 15) (P_move rfl rfl) ?_
      refine At.p (some 6) (P_assign rfl rfl) ?_
      refine At.nil ?_
      refine At.next ?_
      refine At.region ?_
      refine At.p (some 16) (P_move rfl rfl) ?_
      refine At.p (some 17) (P_move rfl rfl) ?_
      refine At.p (some 18) (P_indexAddr_slz rfl Try.underlying22 sz5 rfl rfl rfl rfl (by omega)) ?_
      refine At.q (some 19) (Q_loadM (k := 7) (0#8) rfl rfl Try.underlying5 rfl rfl (by first | omega | (simp <;> omega))) ?_
      refine At.p (some 20) (P_move rfl rfl) ?_
      refine At.p (some 21) (P_xor_w UK.u8 rfl rfl rfl) ?_
      refine At.p (some 22) (P_indexAddr_slz rfl Try.underlying22 sz5 rfl rfl rfl rfl (by omega)) ?_
      refine At.s (S_storeM none (f := u8V) (k := 7) rfl rfl rfl sz5 rfl rfl rfl (by first | omega | (simp <;> omega)) ?_)
      refine At.nil ?_
      refine At.inb_n ?_
      refine At.next ?_
      refine At.region ?_
      refine At.p (some 23) (P_add_i rfl rfl rfl (by omega)) ?_
      refine At.p (some 13) (P_move rfl rfl) ?_
      refine At.nil ?_
      refine At.next ?_
      refine At.to [(1, _), (5, _), (12, _), (13, _)] [(7, ⟨true, b7, 0, 5, (xTo (keyB key) x (i + 1)).map u8V, 0⟩)] (AllL.cons_ (rfl) (AllL.cons_ (rfl) (AllL.cons_ (rfl) (AllL.cons_ (rfl) trivial)))) (AllL.cons_ (congrArg (fun z => some (⟨true, b7, 0, 5, List.map u8V z, 0⟩ : Row)) (by rw [xTo_at _ _ hlt, xTo_set _ _ hlt])) trivial) ?_
      exact hKc0 _ _ _ (by omega) ⟨i + 1, rfl, rfl, rfl, by omega⟩
    · -- cond 14 f
      obtain rfl : i = 64 := by simp at h14; omega
      refine At.exit ?_
      refine At.thn_e ?_
      refine At.thn_e ?_
      refine At.inb_hit ?_
      refine At.next ?_
      refine At.seq ?_
      refine At.region ?_
      refine At.p (some 24) (P_move rfl rfl) ?_
      refine At.p (some 4) (P_assign rfl rfl) ?_
      refine At.nil ?_
      refine At.next ?_
      refine At.ret ?_
      refine At.give (.inl rfl) [7] (rows' := [_]) (vs := [_]) rfl ⟨rfl, trivial⟩ rfl (by simp) (by simp) ⟨b7, rfl, rfl⟩

theorem c_keyedN {A : Option Addr} {key : List (BitVec 8)} {x : BitVec 8} {n ca bq q : Nat} (hn : key.length = n) (hA : 0 < n → A = some ⟨bq, q, none⟩) (hk : n ≤ 64) : Con Try.prog 32 [.slice A n ca, u8V x] [pRow bq q key] (fun v rs => ∃ b, v = .slice (some ⟨b, 0, none⟩) 64 64 ∧ rs = [⟨true, b, 0, 5, (keyedS key x).map u8V, 0⟩]) := by
  subst hn
  exact c_keyed A key x ca bq q hA hk

theorem c_Mac (A A2 : Option Addr) (key b : List (BitVec 8)) (ca cb bq q br r : Nat) (hA : 0 < key.length → A = some ⟨bq, q, none⟩) (hB : 0 < b.length → A2 = some ⟨br, r, none⟩) (hl : key.length ≤ 1000000) (hlb : b.length ≤ 900000) :
    Con Try.prog 18 [.slice A key.length ca, .slice A2 b.length cb] [pRow bq q key, pRow br r b] (fun v rs => v = aggK (macS key b) ∧ rs = []) := by
  refine Con.enter Try.func18 Try.ntmps18 (Nat.le_of_ble_eq_true rfl) rfl fun w => ?_
  refine At.seq ?_
  refine At.region ?_
  refine At.s (S_alloc (some 4) 4 (zs := (List.replicate 32 0#8).map u8V) rfl ze25 rfl (fun b4 => ?_))
  refine At.nil ?_
  refine At.next ?_
  refine At.seq ?_
  refine At.seq ?_
  refine At.region ?_
  refine At.p (some 7) (P_move rfl rfl) ?_
  refine At.p (some 8) (P_len_sl rfl rfl ⟨_, Try.underlying22⟩ rfl) ?_
  refine At.p (some 9) (P_cmp rfl rfl rfl rfl rfl rfl) ?_
  refine At.nil ?_
  refine At.next ?_
  refine At.cond rfl (fun h9 => ?_) (fun h9 => ?_)
  · -- cond 9 t
    have hgt : 64 < key.length := by simp at h9; omega
    have hke : sumS key = keyS key := by rw [keyS, if_pos hgt]
    have hs1 := sumS_len key
    refine At.seq ?_
    refine At.region ?_
    refine At.p (some 10) (P_move rfl rfl) ?_
    refine At.s (S_callV (some 11) [(0, _)] [] (vs := [_]) rfl en15 rfl (VN (by simp) rfl View.all V0) (by simp) (c_SumN (l := key) rfl hA hl) (by rintro _ _ ⟨rfl, rfl⟩; rfl) ?_)
    rintro _ _ ⟨rfl, rfl⟩
    refine At.s (S_alloc (some 5) 5 (zs := (List.replicate 32 0#8).map u8V) rfl ze25 rfl (fun b5 => ?_))
    refine At.s (S_storeA none (k := 5) (vs := _) rfl rfl rfl (by first | (rw [sz25]; simp <;> omega) | exact sz25) rfl (by first | (intro u hu; obtain ⟨z, _, rfl⟩ := List.mem_map.1 hu; rfl) | simp [Value.oneCell']) (by first | (simp; done) | (intro h; have h2 := congrArg List.length h; simp only [List.length_map, List.length_nil] at h2; omega) | (intro h; cases h)) rfl (by first | omega | (simp <;> omega) | rfl | (simp [*]; done)) ?_)
    refine At.nil ?_
    refine At.next ?_
    refine At.region ?_
    refine At.p (some 12) (P_slice_arr1 rfl Try.underlying25 sz5 rfl rfl rfl rfl (by omega) (by omega) (by omega) (by omega)) ?_
    refine At.p (some 0) (P_assign rfl rfl) ?_
    refine At.nil ?_
    refine At.next ?_
    refine At.seq ?_
    have hs2 := sumS_len (keyedS (keyS key) 54#8 ++ b)
    have hs3 := sumS_len (keyedS (keyS key) 92#8 ++ sumS (keyedS (keyS key) 54#8 ++ b))
    refine At.region ?_
    refine At.p (some 13) (P_move rfl rfl) ?_
    refine At.s (S_callV (some 14) [(5, _)] [10] (vs := [_, _]) rfl en32 rfl (VN (by simp) rfl View.all V0) (by simp) (c_keyedN (key := sumS key) (x := 54#8) (n := 32) (sumS_len key) (fun _ => rfl) (by decide)) (by rintro _ _ ⟨b10, rfl, rfl⟩; rfl) ?_)
    rintro _ _ ⟨b10, rfl, rfl⟩
    rw [show keyedS (sumS key) 54#8 = keyedS (keyS key) 54#8 from by rw [← hke]]
    refine At.p (some 15) (P_move rfl rfl) ?_
    refine At.s (S_appendM (some 16) 10 (keyedS (keyS key) 54#8 ++ b) (f := u8V) (l := keyedS (keyS key) 54#8) (L := b) rfl Try.underlying22 Try.underlying22 (.inr ⟨_, rfl⟩) sz5 by5 ze5 rfl rfl (fun h => ⟨rfl, rfl⟩) (keyedS_len _ _) rfl (Src.row (k := 1) (j := 0) rfl hB (fun _ => ⟨rfl, rfl, rfl⟩) (by simp [pRow, List.take_of_length_le]) (by simp)) (fun _ => rfl) (by omega) (by omega) rfl rfl ?_)
    intro A16 b16 c16 g16a g16b
    refine At.s (S_callV (some 17) [(10, _)] [] (vs := [_]) rfl en15 rfl (VN (by simp) rfl View.all V0) (by simp) (c_SumN (l := keyedS (keyS key) 54#8 ++ b) (n := (keyedS (keyS key) 54#8 ++ b).length) rfl (fun h => g16a (by omega)) (by simp [keyedS_len]; omega)) (by rintro _ _ ⟨rfl, rfl⟩; rfl) ?_)
    rintro _ _ ⟨rfl, rfl⟩
    refine At.s (S_alloc (some 6) 6 (zs := (List.replicate 32 0#8).map u8V) rfl ze25 rfl (fun b6 => ?_))
    refine At.s (S_storeA none (k := 6) (vs := _) rfl rfl rfl (by first | (rw [sz25]; simp <;> omega) | exact sz25) rfl (by first | (intro u hu; obtain ⟨z, _, rfl⟩ := List.mem_map.1 hu; rfl) | simp [Value.oneCell']) (by first | (simp; done) | (intro h; have h2 := congrArg List.length h; simp only [List.length_map, List.length_nil] at h2; omega) | (intro h; cases h)) rfl (by first | omega | (simp <;> omega) | rfl | (simp [*]; done)) ?_)
    refine At.nil ?_
    refine At.next ?_
    refine At.seq ?_
    refine At.draws 3 [] [.q false [0, 2], .e false 1] (by kernel_rfl) (by kernel_rfl) ?_
    refine At.wp (some 18) (P_move rfl rfl) ?_
    refine At.wp (some 20) (P_slice_arr1 rfl Try.underlying25 sz5 rfl rfl rfl rfl (by omega) (by omega) (by omega) (by omega)) ?_
    refine At.wqn ?_
    refine At.we ?_
    refine SStep.up (S_callV (some 19) [(5, _)] [11] (vs := [_, _]) rfl en32 rfl (VN (by simp) rfl View.all V0) (by simp) (c_keyedN (key := sumS key) (x := 92#8) (n := 32) (sumS_len key) (fun _ => rfl) (by decide)) (by rintro _ _ ⟨b11, rfl, rfl⟩; rfl) ?_)
    rintro _ _ ⟨b11, rfl, rfl⟩
    rw [show keyedS (sumS key) 92#8 = keyedS (keyS key) 92#8 from by rw [← hke]]
    refine At.wt rfl ?_
    refine At.s (S_appendM (some 21) 11 (keyedS (keyS key) 92#8 ++ sumS (keyedS (keyS key) 54#8 ++ b)) (f := u8V) (l := keyedS (keyS key) 92#8) (L := sumS (keyedS (keyS key) 54#8 ++ b)) rfl Try.underlying22 Try.underlying22 (.inr ⟨_, rfl⟩) sz5 by5 ze5 rfl rfl (fun h => ⟨rfl, rfl⟩) (keyedS_len _ _) rfl (Src.row (k := 6) (j := 0) rfl (fun _ => rfl) (fun _ => ⟨rfl, rfl, rfl⟩) (by simp [List.take_of_length_le, sumS_len]) (by simp [sumS_len])) (fun _ => rfl) (by omega) (by omega) rfl (sumS_len _) ?_)
    intro A21 b21 c21 g21a g21b
    refine At.s (S_callV (some 22) [(11, _)] [] (vs := [_]) rfl en15 rfl (VN (by simp) rfl View.all V0) (by simp) (c_SumN (l := keyedS (keyS key) 92#8 ++ sumS (keyedS (keyS key) 54#8 ++ b)) (n := (keyedS (keyS key) 92#8 ++ sumS (keyedS (keyS key) 54#8 ++ b)).length) rfl (fun h => g21a (by omega)) (by simp [keyedS_len, sumS_len])) (by rintro _ _ ⟨rfl, rfl⟩; rfl) ?_)
    rintro _ _ ⟨rfl, rfl⟩
    refine At.s (S_storeA none (k := 4) (vs := _) rfl rfl rfl (by first | (rw [sz25]; simp <;> omega) | exact sz25) rfl (by first | (intro u hu; obtain ⟨z, _, rfl⟩ := List.mem_map.1 hu; rfl) | simp [Value.oneCell']) (by first | (simp; done) | (intro h; have h2 := congrArg List.length h; simp only [List.length_map, List.length_nil] at h2; omega) | (intro h; cases h)) rfl (by first | omega | (simp <;> omega) | rfl | (simp [*]; done)) ?_)
    refine At.nil ?_
    refine At.next ?_
    refine At.ret ?_
    refine At.giveV (.inl rfl) [] (rows' := []) (ResV.cellA (k := 4) rfl rfl Try.underlying25 rfl sz25 (by first | (simp <;> omega) | rfl | (simp [*]; done)) rfl) rfl (by simp) (by simp) ?_
    exact ⟨rfl, rfl⟩
  · -- cond 9 f
    have hgt : ¬ 64 < key.length := by simp at h9; omega
    have hke : key = keyS key := by rw [keyS, if_neg hgt]
    refine At.skip ?_
    refine At.next ?_
    refine At.seq ?_
    have hs2 := sumS_len (keyedS (keyS key) 54#8 ++ b)
    have hs3 := sumS_len (keyedS (keyS key) 92#8 ++ sumS (keyedS (keyS key) 54#8 ++ b))
    refine At.region ?_
    refine At.p (some 13) (P_move rfl rfl) ?_
    refine At.s (S_callV (some 14) [(0, _)] [10] (vs := [_, _]) rfl en32 rfl (VN (by simp) rfl View.all V0) (by simp) (c_keyedN (key := key) (x := 54#8) (n := key.length) rfl hA (by omega)) (by rintro _ _ ⟨b10, rfl, rfl⟩; rfl) ?_)
    rintro _ _ ⟨b10, rfl, rfl⟩
    rw [show keyedS key 54#8 = keyedS (keyS key) 54#8 from by rw [← hke]]
    refine At.p (some 15) (P_move rfl rfl) ?_
    refine At.s (S_appendM (some 16) 10 (keyedS (keyS key) 54#8 ++ b) (f := u8V) (l := keyedS (keyS key) 54#8) (L := b) rfl Try.underlying22 Try.underlying22 (.inr ⟨_, rfl⟩) sz5 by5 ze5 rfl rfl (fun h => ⟨rfl, rfl⟩) (keyedS_len _ _) rfl (Src.row (k := 1) (j := 0) rfl hB (fun _ => ⟨rfl, rfl, rfl⟩) (by simp [pRow, List.take_of_length_le]) (by simp)) (fun _ => rfl) (by omega) (by omega) rfl rfl ?_)
    intro A16 b16 c16 g16a g16b
    refine At.s (S_callV (some 17) [(10, _)] [] (vs := [_]) rfl en15 rfl (VN (by simp) rfl View.all V0) (by simp) (c_SumN (l := keyedS (keyS key) 54#8 ++ b) (n := (keyedS (keyS key) 54#8 ++ b).length) rfl (fun h => g16a (by omega)) (by simp [keyedS_len]; omega)) (by rintro _ _ ⟨rfl, rfl⟩; rfl) ?_)
    rintro _ _ ⟨rfl, rfl⟩
    refine At.s (S_alloc (some 6) 6 (zs := (List.replicate 32 0#8).map u8V) rfl ze25 rfl (fun b6 => ?_))
    refine At.s (S_storeA none (k := 6) (vs := _) rfl rfl rfl (by first | (rw [sz25]; simp <;> omega) | exact sz25) rfl (by first | (intro u hu; obtain ⟨z, _, rfl⟩ := List.mem_map.1 hu; rfl) | simp [Value.oneCell']) (by first | (simp; done) | (intro h; have h2 := congrArg List.length h; simp only [List.length_map, List.length_nil] at h2; omega) | (intro h; cases h)) rfl (by first | omega | (simp <;> omega) | rfl | (simp [*]; done)) ?_)
    refine At.nil ?_
    refine At.next ?_
    refine At.seq ?_
    refine At.draws 3 [] [.q false [0, 2], .e false 1] (by kernel_rfl) (by kernel_rfl) ?_
    refine At.wp (some 18) (P_move rfl rfl) ?_
    refine At.wp (some 20) (P_slice_arr1 rfl Try.underlying25 sz5 rfl rfl rfl rfl (by omega) (by omega) (by omega) (by omega)) ?_
    refine At.wqn ?_
    refine At.we ?_
    refine SStep.up (S_callV (some 19) [(0, _)] [11] (vs := [_, _]) rfl en32 rfl (VN (by simp) rfl View.all V0) (by simp) (c_keyedN (key := key) (x := 92#8) (n := key.length) rfl hA (by omega)) (by rintro _ _ ⟨b11, rfl, rfl⟩; rfl) ?_)
    rintro _ _ ⟨b11, rfl, rfl⟩
    rw [show keyedS key 92#8 = keyedS (keyS key) 92#8 from by rw [← hke]]
    refine At.wt rfl ?_
    refine At.s (S_appendM (some 21) 11 (keyedS (keyS key) 92#8 ++ sumS (keyedS (keyS key) 54#8 ++ b)) (f := u8V) (l := keyedS (keyS key) 92#8) (L := sumS (keyedS (keyS key) 54#8 ++ b)) rfl Try.underlying22 Try.underlying22 (.inr ⟨_, rfl⟩) sz5 by5 ze5 rfl rfl (fun h => ⟨rfl, rfl⟩) (keyedS_len _ _) rfl (Src.row (k := 6) (j := 0) rfl (fun _ => rfl) (fun _ => ⟨rfl, rfl, rfl⟩) (by simp [List.take_of_length_le, sumS_len]) (by simp [sumS_len])) (fun _ => rfl) (by omega) (by omega) rfl (sumS_len _) ?_)
    intro A21 b21 c21 g21a g21b
    refine At.s (S_callV (some 22) [(11, _)] [] (vs := [_]) rfl en15 rfl (VN (by simp) rfl View.all V0) (by simp) (c_SumN (l := keyedS (keyS key) 92#8 ++ sumS (keyedS (keyS key) 54#8 ++ b)) (n := (keyedS (keyS key) 92#8 ++ sumS (keyedS (keyS key) 54#8 ++ b)).length) rfl (fun h => g21a (by omega)) (by simp [keyedS_len, sumS_len])) (by rintro _ _ ⟨rfl, rfl⟩; rfl) ?_)
    rintro _ _ ⟨rfl, rfl⟩
    refine At.s (S_storeA none (k := 4) (vs := _) rfl rfl rfl (by first | (rw [sz25]; simp <;> omega) | exact sz25) rfl (by first | (intro u hu; obtain ⟨z, _, rfl⟩ := List.mem_map.1 hu; rfl) | simp [Value.oneCell']) (by first | (simp; done) | (intro h; have h2 := congrArg List.length h; simp only [List.length_map, List.length_nil] at h2; omega) | (intro h; cases h)) rfl (by first | omega | (simp <;> omega) | rfl | (simp [*]; done)) ?_)
    refine At.nil ?_
    refine At.next ?_
    refine At.ret ?_
    refine At.giveV (.inl rfl) [] (rows' := []) (ResV.cellA (k := 4) rfl rfl Try.underlying25 rfl sz25 (by first | (simp <;> omega) | rfl | (simp [*]; done)) rfl) rfl (by simp) (by simp) ?_
    exact ⟨rfl, rfl⟩
end Go.Proofs.Ytdkeadfhejkidaa
