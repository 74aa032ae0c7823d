import Derived.Test.YtkdkpjnlknofeaaRA
namespace Go.Proofs.Ytkdkpjnlknofeaa
set_option maxRecDepth 20000
set_option linter.unusedVariables false
set_option linter.unusedSimpArgs false
open Go.SE Go.RowKit
theorem c_tagN {key nonce b more : List (BitVec 8)} {nb nm : Nat} {A A2 : Option Addr} {ca cb bq q br r : Nat} (hnb : b.length = nb) (hnm : more.length = nm) (hkey : key.length = 32) (hnonce : nonce.length = 12) (hA : 0 < nb → A = some ⟨bq, q, none⟩) (hB : 0 < nm → A2 = some ⟨br, r, none⟩) (hl : nb ≤ 100000) (hlm : nm ≤ 100000) :
    Con Try.prog 40 [aggK key, aggK nonce, .slice A nb ca, .slice A2 nm cb] [pRow bq q b, pRow br r more] (fun v rs => v = aggK (aTag key nonce b more) ∧ rs = []) := by
  subst hnb hnm
  exact c_tag key nonce b more A A2 ca cb bq q br r hkey hnonce hA hB hl hlm

theorem c_SameN {a b : List (BitVec 8)} {n m : Nat} {A A2 : Option Addr} {ca cb bq q br r : Nat} (hn : a.length = n) (hm : b.length = m) (hA : 0 < n → A = some ⟨bq, q, none⟩) (hB : 0 < m → A2 = some ⟨br, r, none⟩) (hl : n ≤ 281474976710656) : Con Try.prog 41 [.slice A n ca, .slice A2 m cb] [pRow bq q a, pRow br r b] (fun v rs => v = .bool (decide (a = b)) ∧ rs = []) := by
  subst hn hm
  exact c_Same A A2 a b ca cb bq q br r hA hB hl

set_option maxHeartbeats 1000000 in
theorem r_tag (key nonce b more : List (BitVec 8)) (A A2 : Option Addr) (ca cb bq q br r : Nat) (hkey : key.length = 32) (hnonce : nonce.length = 12) (hA : 0 < b.length → A = some ⟨bq, q, none⟩) (hB : 0 < more.length → A2 = some ⟨br, r, none⟩) (hl : b.length ≤ 100000) (hlm : more.length ≤ 100000) :
    Con Try.prog 42 [aggK key, aggK nonce, .slice A b.length ca, .slice A2 more.length cb] [pRow bq q b, pRow br r more] (fun v rs => v = aggK (aTag key nonce b more) ∧ rs = []) := by
  refine Con.enter Try.func42 Try.ntmps42 (Nat.le_of_ble_eq_true rfl) rfl fun w => ?_
  refine At.seq ?_
  have hk32 : key.length = 32 := hkey
  have hn12 : nonce.length = 12 := hnonce
  have hbl := blockS_len key 0#32 nonce
  have hq1 := padN_lt more.length
  have hq2 := padN_lt (pad16 more ++ b).length
  have hq3 := pad16_len more
  have hq4 := pad16_len (pad16 more ++ b)
  have hq5 : (pad16 more ++ b).length = (pad16 more).length + b.length := List.length_append
  have hq7 := fun i => cntTo_len (pad16 (pad16 more ++ b)) more.length i
  have hq78 := hq7 8
  have hq8 := fun i => cntTo_len (cntTo (pad16 (pad16 more ++ b)) more.length 8) b.length i
  have hq88 := hq8 8
  have htl := tagS_len (ownK key nonce) (cntTo (cntTo (pad16 (pad16 more ++ b)) more.length 8) b.length 8)
  refine At.region ?_
  refine At.s (S_box (some 4) 4 (zs := key.map u8V) rfl rfl rfl (fun b4 => ?_))
  refine At.s (S_box (some 5) 5 (zs := nonce.map u8V) rfl rfl rfl (fun b5 => ?_))
  refine At.s (S_alloc (some 8) 8 (zs := (List.replicate 16 0#8).map u8V) rfl ze36 rfl (fun b8 => ?_))
  refine At.nil ?_
  refine At.next ?_
  refine At.seq ?_
  refine At.region ?_
  refine At.s (S_buildSlice0 (some 15) 9 rfl Try.underlying31 sz5 (fun b9 => ?_))
  refine At.p (some 16) (P_move rfl rfl) ?_
  refine At.s (S_appendM (some 17) 9 (padZ more 0) (f := u8V) (l := []) (L := more) rfl Try.underlying31 Try.underlying31 (.inr ⟨_, rfl⟩) sz5 by5 ze5 rfl rfl (fun h => ⟨absurd h (by omega), rfl⟩) rfl rfl (Src.row (k := 1) (j := 0) rfl hB (fun _ => ⟨rfl, rfl, rfl⟩) (by simp [pRow, List.take_of_length_le]) (by simp)) (fun _ => rfl) (by omega) (by omega) rfl rfl ?_)
  intro A9 b9 c9 hA9 hc9
  refine At.p (some 9) (P_assign rfl rfl) ?_
  refine At.nil ?_
  refine At.next ?_
  refine At.seq ?_
  refine At.block ?_
  refine At.loopx (I := fun m fr H => ∃ (z b9 c9 : Nat) (A9 : Option Addr), m = padN more.length - z ∧ fr = frOf [(2, .slice A b.length ca), (3, .slice A2 more.length cb), (4, ptr b4 0), (5, ptr b5 0), (8, ptr b8 0), (9, .slice A9 (padZ more z).length c9)] ∧ H = hOf [(0, pRow bq q b), (1, pRow br r more), (4, ⟨true, b4, 0, 22, (key).map u8V, 0⟩), (5, ⟨true, b5, 0, 24, (nonce).map u8V, 0⟩), (8, ⟨true, b8, 0, 36, (List.replicate 16 0#8).map u8V, 0⟩), (9, ⟨true, b9, 0, 5, (padZ more z).map u8V, c9 - (padZ more z).length⟩)] ∧ z ≤ padN more.length ∧ (0 < c9 → A9 = some ⟨b9, 0, none⟩) ∧ (padZ more z).length ≤ c9) ?_ ?_
  · intro Kc0 hKc0
    refine At.to [(2, _), (3, _), (4, _), (5, _), (8, _), (9, .slice A9 (padZ more 0).length c9)] [(0, _), (1, _), (4, _), (5, _), (8, _), (9, ⟨true, b9, 0, 5, (padZ more 0).map u8V, c9 - (padZ more 0).length⟩)] (AllL.cons_ (rfl) (AllL.cons_ (rfl) (AllL.cons_ (rfl) (AllL.cons_ (rfl) (AllL.cons_ (rfl) (AllL.cons_ (rfl) trivial)))))) (AllL.cons_ (rfl) (AllL.cons_ (rfl) (AllL.cons_ (rfl) (AllL.cons_ (rfl) (AllL.cons_ (rfl) (AllL.cons_ (rfl) trivial)))))) ?_
    exact hKc0 _ _ _ ⟨0, b9, c9, A9, rfl, rfl, rfl, by omega, hA9, hc9⟩
  · rintro m fr H ⟨z, b9, c9, A9, rfl, rfl, rfl, hz, hA9, hc9⟩ Kc0 hKc0
    refine At.seq ?_
    refine At.seq ?_
    refine At.region ?_
    refine At.p (some 18) (P_move rfl rfl) ?_
    refine At.p (some 19) (P_len_sl rfl rfl ⟨_, Try.underlying31⟩ rfl) ?_
    refine At.p (some 20) (P_rem_i rfl rfl rfl (by omega) (by first | decide | omega)) ?_
    refine At.p (some 21) (P_cmp rfl rfl rfl rfl rfl rfl) ?_
    refine At.nil ?_
    refine At.next ?_
    refine At.cond rfl (fun h21 => ?_) (fun h21 => ?_)
    · -- cond 21 t
      have hpl := padZ_len (more) z
      have hzl := padN_lt (more).length
      have hlt : z < padN (more).length := by
        have h2 : ¬ ((padZ (more) z).length : Int) % 16 = 0 := by simpa using h21
        unfold padN at *
        omega
      refine At.skip ?_
      refine At.next ?_
      refine At.block ?_
      refine At.region ?_
      refine At.p (some 22) (P_move rfl rfl) ?_
      refine At.s (S_buildSliceV (some 23) 23 ([0#8].map u8V) rfl Try.underlying31 sz5 ze5 rfl rfl (by decide) (by decide) rfl rfl (fun b23 => ?_))
      refine At.s (S_appendM (some 24) 9 (padZ more (z + 1)) (f := u8V) (l := padZ more z) (L := [0#8]) rfl Try.underlying31 Try.underlying31 (.inr ⟨_, rfl⟩) sz5 by5 ze5 rfl rfl (fun h => ⟨hA9 h, rfl⟩) rfl (by omega) (Src.row (k := 23) (j := 0) rfl (fun _ => rfl) (fun _ => ⟨rfl, rfl, rfl⟩) rfl rfl) (fun _ => rfl) (by omega) (by omega) rfl rfl ?_)
      intro A9 b9 c9 g1 g2
      refine At.p (some 9) (P_assign rfl rfl) ?_
      refine At.nil ?_
      refine At.inb_n ?_
      refine At.next ?_
      refine At.to [(2, _), (3, _), (4, _), (5, _), (8, _), (9, _)] [(0, _), (1, _), (4, _), (5, _), (8, _), (9, _)] (AllL.cons_ (rfl) (AllL.cons_ (rfl) (AllL.cons_ (rfl) (AllL.cons_ (rfl) (AllL.cons_ (rfl) (AllL.cons_ (rfl) trivial)))))) (AllL.cons_ (rfl) (AllL.cons_ (rfl) (AllL.cons_ (rfl) (AllL.cons_ (rfl) (AllL.cons_ (rfl) (AllL.cons_ (rfl) trivial)))))) ?_
      exact hKc0 _ _ _ (by omega) ⟨z + 1, _, _, _, rfl, rfl, rfl, by omega, g1, g2⟩
    · -- cond 21 f
      have hpl := padZ_len (more) z
      have h2 : ((padZ (more) z).length : Int) % 16 = 0 := by simpa using h21
      have hze : z = padN (more).length := by
        unfold padN at *
        omega
      subst hze
      change At _ _ _ _
      refine At.exit ?_
      refine At.thn_e ?_
      refine At.thn_e ?_
      refine At.inb_hit ?_
      refine At.next ?_
      refine At.seq ?_
      refine At.region ?_
      refine At.p (some 25) (P_move rfl rfl) ?_
      refine At.p (some 26) (P_move rfl rfl) ?_
      refine At.s (S_appendM (some 27) 9 (padZ (pad16 more ++ b) 0) (f := u8V) (l := pad16 more) (L := b) rfl Try.underlying31 Try.underlying31 (.inr ⟨_, rfl⟩) sz5 by5 ze5 rfl rfl (fun h => ⟨hA9 h, rfl⟩) rfl (by omega) (Src.row (k := 0) (j := 0) rfl hA (fun _ => ⟨rfl, rfl, rfl⟩) (by simp [pRow, List.take_of_length_le]) (by simp)) (fun _ => rfl) (by omega) (by omega) rfl rfl ?_)
      intro A9 b9 c9 hA9 hc9
      refine At.p (some 9) (P_assign rfl rfl) ?_
      refine At.nil ?_
      refine At.next ?_
      refine At.seq ?_
      refine At.block ?_
      refine At.loopx (I := fun m fr H => ∃ (z b9 c9 : Nat) (A9 : Option Addr), m = padN (pad16 more ++ b).length - z ∧ fr = frOf [(2, .slice A b.length ca), (3, .slice A2 more.length cb), (4, ptr b4 0), (5, ptr b5 0), (8, ptr b8 0), (9, .slice A9 (padZ (pad16 more ++ b) z).length c9)] ∧ H = hOf [(0, pRow bq q b), (1, pRow br r more), (4, ⟨true, b4, 0, 22, (key).map u8V, 0⟩), (5, ⟨true, b5, 0, 24, (nonce).map u8V, 0⟩), (8, ⟨true, b8, 0, 36, (List.replicate 16 0#8).map u8V, 0⟩), (9, ⟨true, b9, 0, 5, (padZ (pad16 more ++ b) z).map u8V, c9 - (padZ (pad16 more ++ b) z).length⟩)] ∧ z ≤ padN (pad16 more ++ b).length ∧ (0 < c9 → A9 = some ⟨b9, 0, none⟩) ∧ (padZ (pad16 more ++ b) z).length ≤ c9) ?_ ?_
      · intro Kc1 hKc1
        refine At.to [(2, _), (3, _), (4, _), (5, _), (8, _), (9, .slice A9 (padZ (pad16 more ++ b) 0).length c9)] [(0, _), (1, _), (4, _), (5, _), (8, _), (9, ⟨true, b9, 0, 5, (padZ (pad16 more ++ b) 0).map u8V, c9 - (padZ (pad16 more ++ b) 0).length⟩)] (AllL.cons_ (rfl) (AllL.cons_ (rfl) (AllL.cons_ (rfl) (AllL.cons_ (rfl) (AllL.cons_ (rfl) (AllL.cons_ (rfl) trivial)))))) (AllL.cons_ (rfl) (AllL.cons_ (rfl) (AllL.cons_ (rfl) (AllL.cons_ (rfl) (AllL.cons_ (rfl) (AllL.cons_ (rfl) trivial)))))) ?_
        exact hKc1 _ _ _ ⟨0, b9, c9, A9, rfl, rfl, rfl, by omega, hA9, hc9⟩
      · rintro m fr H ⟨z, b9, c9, A9, rfl, rfl, rfl, hz, hA9, hc9⟩ Kc1 hKc1
        refine At.seq ?_
        refine At.seq ?_
        refine At.region ?_
        refine At.p (some 28) (P_move rfl rfl) ?_
        refine At.p (some 29) (P_len_sl rfl rfl ⟨_, Try.underlying31⟩ rfl) ?_
        refine At.p (some 30) (P_rem_i rfl rfl rfl (by omega) (by first | decide | omega)) ?_
        refine At.p (some 31) (P_cmp rfl rfl rfl rfl rfl rfl) ?_
        refine At.nil ?_
        refine At.next ?_
        refine At.cond rfl (fun h31 => ?_) (fun h31 => ?_)
        · -- cond 31 t
          have hpl := padZ_len (pad16 more ++ b) z
          have hzl := padN_lt (pad16 more ++ b).length
          have hlt : z < padN (pad16 more ++ b).length := by
            have h2 : ¬ ((padZ (pad16 more ++ b) z).length : Int) % 16 = 0 := by simpa using h31
            unfold padN at *
            omega
          refine At.skip ?_
          refine At.next ?_
          refine At.block ?_
          refine At.region ?_
          refine At.p (some 32) (P_move rfl rfl) ?_
          refine At.s (S_buildSliceV (some 33) 33 ([0#8].map u8V) rfl Try.underlying31 sz5 ze5 rfl rfl (by decide) (by decide) rfl rfl (fun b33 => ?_))
          refine At.s (S_appendM (some 34) 9 (padZ (pad16 more ++ b) (z + 1)) (f := u8V) (l := padZ (pad16 more ++ b) z) (L := [0#8]) rfl Try.underlying31 Try.underlying31 (.inr ⟨_, rfl⟩) sz5 by5 ze5 rfl rfl (fun h => ⟨hA9 h, rfl⟩) rfl (by omega) (Src.row (k := 33) (j := 0) rfl (fun _ => rfl) (fun _ => ⟨rfl, rfl, rfl⟩) rfl rfl) (fun _ => rfl) (by omega) (by omega) rfl rfl ?_)
          intro A9 b9 c9 g1 g2
          refine At.p (some 9) (P_assign rfl rfl) ?_
          refine At.nil ?_
          refine At.inb_n ?_
          refine At.next ?_
          refine At.to [(2, _), (3, _), (4, _), (5, _), (8, _), (9, _)] [(0, _), (1, _), (4, _), (5, _), (8, _), (9, _)] (AllL.cons_ (rfl) (AllL.cons_ (rfl) (AllL.cons_ (rfl) (AllL.cons_ (rfl) (AllL.cons_ (rfl) (AllL.cons_ (rfl) trivial)))))) (AllL.cons_ (rfl) (AllL.cons_ (rfl) (AllL.cons_ (rfl) (AllL.cons_ (rfl) (AllL.cons_ (rfl) (AllL.cons_ (rfl) trivial)))))) ?_
          exact hKc1 _ _ _ (by omega) ⟨z + 1, _, _, _, rfl, rfl, rfl, by omega, g1, g2⟩
        · -- cond 31 f
          have hpl := padZ_len (pad16 more ++ b) z
          have h2 : ((padZ (pad16 more ++ b) z).length : Int) % 16 = 0 := by simpa using h31
          have hze : z = padN (pad16 more ++ b).length := by
            unfold padN at *
            omega
          subst hze
          refine At.exit ?_
          refine At.thn_e ?_
          refine At.thn_e ?_
          refine At.inb_hit ?_
          refine At.next ?_
          refine At.seq ?_
          refine At.seq ?_
          refine At.region ?_
          refine At.p (some 10) (P_assign rfl rfl) ?_
          refine At.nil ?_
          refine At.next ?_
          refine At.block ?_
          refine At.loopx (I := fun m fr H => ∃ (i b9 c9 : Nat) (A9 : Option Addr), m = 8 - i ∧ fr = frOf [(2, .slice A b.length ca), (3, .slice A2 more.length cb), (4, ptr b4 0), (5, ptr b5 0), (8, ptr b8 0), (9, .slice A9 (cntTo (pad16 (pad16 more ++ b)) more.length i).length c9), (10, iV (i : Int))] ∧ H = hOf [(0, pRow bq q b), (1, pRow br r more), (4, ⟨true, b4, 0, 22, (key).map u8V, 0⟩), (5, ⟨true, b5, 0, 24, (nonce).map u8V, 0⟩), (8, ⟨true, b8, 0, 36, (List.replicate 16 0#8).map u8V, 0⟩), (9, ⟨true, b9, 0, 5, (cntTo (pad16 (pad16 more ++ b)) more.length i).map u8V, c9 - (cntTo (pad16 (pad16 more ++ b)) more.length i).length⟩)] ∧ i ≤ 8 ∧ (0 < c9 → A9 = some ⟨b9, 0, none⟩) ∧ (cntTo (pad16 (pad16 more ++ b)) more.length i).length ≤ c9) ?_ ?_
          · intro Kc2 hKc2
            refine At.to [(2, _), (3, _), (4, _), (5, _), (8, _), (9, .slice A9 (cntTo (pad16 (pad16 more ++ b)) more.length 0).length c9), (10, _)] [(0, _), (1, _), (4, _), (5, _), (8, _), (9, ⟨true, b9, 0, 5, (cntTo (pad16 (pad16 more ++ b)) more.length 0).map u8V, c9 - (cntTo (pad16 (pad16 more ++ b)) more.length 0).length⟩)] (AllL.cons_ (rfl) (AllL.cons_ (rfl) (AllL.cons_ (rfl) (AllL.cons_ (rfl) (AllL.cons_ (rfl) (AllL.cons_ (rfl) (AllL.cons_ (rfl) trivial))))))) (AllL.cons_ (rfl) (AllL.cons_ (rfl) (AllL.cons_ (rfl) (AllL.cons_ (rfl) (AllL.cons_ (rfl) (AllL.cons_ (rfl) trivial)))))) ?_
            exact hKc2 _ _ _ ⟨0, b9, c9, A9, rfl, rfl, rfl, by omega, hA9, hc9⟩
          · rintro m fr H ⟨i, b9, c9, A9, rfl, rfl, rfl, hz, hA9, hc9⟩ Kc2 hKc2
            refine At.seq ?_
            refine At.seq ?_
            refine At.region ?_
            refine At.p (some 35) (P_move rfl rfl) ?_
            refine At.p (some 36) (P_cmp rfl rfl rfl rfl rfl rfl) ?_
            refine At.nil ?_
            refine At.next ?_
            refine At.cond rfl (fun h36 => ?_) (fun h36 => ?_)
            · -- cond 36 t
              have hlt : i < 8 := by simp at h36; omega
              have hq7i := hq7 i
              refine At.skip ?_
              refine At.next ?_
              refine At.seq ?_
              refine At.block ?_
              refine At.region ?_
              refine At.p (some 39) (P_move rfl rfl) ?_
              refine At.p (some 40) (P_move rfl rfl) ?_
              refine At.p (some 41) (P_len_sl rfl rfl ⟨_, Try.underlying31⟩ rfl) ?_
              refine At.p (some 42) (P_conv_iw UK.u64 rfl Try.underlying3 Try.underlying29 rfl) ?_
              refine At.p (some 43) (P_move rfl rfl) ?_
              refine At.p (some 44) (P_mul_i rfl rfl rfl (by omega)) ?_
              refine At.p (some 45) (P_shr_w UK.u64 (n := 64) rfl rfl rfl (by first | decide | omega)) ?_
              refine At.p (some 46) (P_conv_ww UK.u8 (m := 64) rfl Try.underlying29 Try.underlying5 rfl) ?_
              refine At.s (S_buildSliceV (some 47) 47 ([(BitVec.ofInt 64 (more.length : Int) >>> (8 * (i : Int)).toNat).setWidth 8].map u8V) rfl Try.underlying31 sz5 ze5 rfl rfl (by decide) (by decide) rfl rfl (fun b47 => ?_))
              refine At.s (S_appendM (some 48) 9 (cntTo (pad16 (pad16 more ++ b)) more.length (i + 1)) (f := u8V) (l := cntTo (pad16 (pad16 more ++ b)) more.length i) (L := [(BitVec.ofInt 64 (more.length : Int) >>> (8 * (i : Int)).toNat).setWidth 8]) rfl Try.underlying31 Try.underlying31 (.inr ⟨_, rfl⟩) sz5 by5 ze5 rfl rfl (fun h => ⟨hA9 h, rfl⟩) rfl (by omega) (Src.row (k := 47) (j := 0) rfl (fun _ => rfl) (fun _ => ⟨rfl, rfl, rfl⟩) rfl rfl) (fun _ => rfl) (by omega) (by omega) (by rw [show (8 * (i : Int)).toNat = 8 * i by omega]; rfl) rfl ?_)
              intro A9 b9 c9 g1 g2
              refine At.p (some 9) (P_assign rfl rfl) ?_
              refine At.nil ?_
              refine At.inb_n ?_
              refine At.next ?_
              refine At.region ?_
              refine At.p (some 37) (P_move rfl rfl) ?_
              refine At.p (some 38) (P_add_i rfl rfl rfl (by omega)) ?_
              refine At.p (some 10) (P_assign rfl rfl) ?_
              refine At.nil ?_
              refine At.next ?_
              refine At.to [(2, _), (3, _), (4, _), (5, _), (8, _), (9, _), (10, _)] [(0, _), (1, _), (4, _), (5, _), (8, _), (9, _)] (AllL.cons_ (rfl) (AllL.cons_ (rfl) (AllL.cons_ (rfl) (AllL.cons_ (rfl) (AllL.cons_ (rfl) (AllL.cons_ (rfl) (AllL.cons_ (rfl) trivial))))))) (AllL.cons_ (rfl) (AllL.cons_ (rfl) (AllL.cons_ (rfl) (AllL.cons_ (rfl) (AllL.cons_ (rfl) (AllL.cons_ (rfl) trivial)))))) ?_
              exact hKc2 _ _ _ (by omega) ⟨i + 1, _, _, _, rfl, rfl, rfl, by omega, g1, g2⟩
            · -- cond 36 f
              obtain rfl : i = 8 := by simp at h36; omega
              refine At.exit ?_
              refine At.thn_e ?_
              refine At.thn_e ?_
              refine At.inb_hit ?_
              refine At.next ?_
              refine At.seq ?_
              refine At.seq ?_
              refine At.region ?_
              refine At.p (some 11) (P_assign rfl rfl) ?_
              refine At.nil ?_
              refine At.next ?_
              refine At.block ?_
              refine At.loopx (I := fun m fr H => ∃ (i b9 c9 : Nat) (A9 : Option Addr), m = 8 - i ∧ fr = frOf [(2, .slice A b.length ca), (3, .slice A2 more.length cb), (4, ptr b4 0), (5, ptr b5 0), (8, ptr b8 0), (9, .slice A9 (cntTo (cntTo (pad16 (pad16 more ++ b)) more.length 8) b.length i).length c9), (11, iV (i : Int))] ∧ H = hOf [(0, pRow bq q b), (1, pRow br r more), (4, ⟨true, b4, 0, 22, (key).map u8V, 0⟩), (5, ⟨true, b5, 0, 24, (nonce).map u8V, 0⟩), (8, ⟨true, b8, 0, 36, (List.replicate 16 0#8).map u8V, 0⟩), (9, ⟨true, b9, 0, 5, (cntTo (cntTo (pad16 (pad16 more ++ b)) more.length 8) b.length i).map u8V, c9 - (cntTo (cntTo (pad16 (pad16 more ++ b)) more.length 8) b.length i).length⟩)] ∧ i ≤ 8 ∧ (0 < c9 → A9 = some ⟨b9, 0, none⟩) ∧ (cntTo (cntTo (pad16 (pad16 more ++ b)) more.length 8) b.length i).length ≤ c9) ?_ ?_
              · intro Kc3 hKc3
                refine At.to [(2, _), (3, _), (4, _), (5, _), (8, _), (9, .slice A9 (cntTo (cntTo (pad16 (pad16 more ++ b)) more.length 8) b.length 0).length c9), (11, _)] [(0, _), (1, _), (4, _), (5, _), (8, _), (9, ⟨true, b9, 0, 5, (cntTo (cntTo (pad16 (pad16 more ++ b)) more.length 8) b.length 0).map u8V, c9 - (cntTo (cntTo (pad16 (pad16 more ++ b)) more.length 8) b.length 0).length⟩)] (AllL.cons_ (rfl) (AllL.cons_ (rfl) (AllL.cons_ (rfl) (AllL.cons_ (rfl) (AllL.cons_ (rfl) (AllL.cons_ (rfl) (AllL.cons_ (rfl) trivial))))))) (AllL.cons_ (rfl) (AllL.cons_ (rfl) (AllL.cons_ (rfl) (AllL.cons_ (rfl) (AllL.cons_ (rfl) (AllL.cons_ (rfl) trivial)))))) ?_
                exact hKc3 _ _ _ ⟨0, b9, c9, A9, rfl, rfl, rfl, by omega, hA9, hc9⟩
              · rintro m fr H ⟨i, b9, c9, A9, rfl, rfl, rfl, hz, hA9, hc9⟩ Kc3 hKc3
                refine At.seq ?_
                refine At.seq ?_
                refine At.region ?_
                refine At.p (some 49) (P_move rfl rfl) ?_
                refine At.p (some 50) (P_cmp rfl rfl rfl rfl rfl rfl) ?_
                refine At.nil ?_
                refine At.next ?_
                refine At.cond rfl (fun h50 => ?_) (fun h50 => ?_)
                · -- cond 50 t
                  have hlt : i < 8 := by simp at h50; omega
                  have hq8i := hq8 i
                  refine At.skip ?_
                  refine At.next ?_
                  refine At.seq ?_
                  refine At.block ?_
                  refine At.region ?_
                  refine At.p (some 53) (P_move rfl rfl) ?_
                  refine At.p (some 54) (P_move rfl rfl) ?_
                  refine At.p (some 55) (P_len_sl rfl rfl ⟨_, Try.underlying31⟩ rfl) ?_
                  refine At.p (some 56) (P_conv_iw UK.u64 rfl Try.underlying3 Try.underlying29 rfl) ?_
                  refine At.p (some 57) (P_move rfl rfl) ?_
                  refine At.p (some 58) (P_mul_i rfl rfl rfl (by omega)) ?_
                  refine At.p (some 59) (P_shr_w UK.u64 (n := 64) rfl rfl rfl (by first | decide | omega)) ?_
                  refine At.p (some 60) (P_conv_ww UK.u8 (m := 64) rfl Try.underlying29 Try.underlying5 rfl) ?_
                  refine At.s (S_buildSliceV (some 61) 61 ([(BitVec.ofInt 64 (b.length : Int) >>> (8 * (i : Int)).toNat).setWidth 8].map u8V) rfl Try.underlying31 sz5 ze5 rfl rfl (by decide) (by decide) rfl rfl (fun b61 => ?_))
                  refine At.s (S_appendM (some 62) 9 (cntTo (cntTo (pad16 (pad16 more ++ b)) more.length 8) b.length (i + 1)) (f := u8V) (l := cntTo (cntTo (pad16 (pad16 more ++ b)) more.length 8) b.length i) (L := [(BitVec.ofInt 64 (b.length : Int) >>> (8 * (i : Int)).toNat).setWidth 8]) rfl Try.underlying31 Try.underlying31 (.inr ⟨_, rfl⟩) sz5 by5 ze5 rfl rfl (fun h => ⟨hA9 h, rfl⟩) rfl (by omega) (Src.row (k := 61) (j := 0) rfl (fun _ => rfl) (fun _ => ⟨rfl, rfl, rfl⟩) rfl rfl) (fun _ => rfl) (by omega) (by omega) (by rw [show (8 * (i : Int)).toNat = 8 * i by omega]; rfl) rfl ?_)
                  intro A9 b9 c9 g1 g2
                  refine At.p (some 9) (P_assign rfl rfl) ?_
                  refine At.nil ?_
                  refine At.inb_n ?_
                  refine At.next ?_
                  refine At.region ?_
                  refine At.p (some 51) (P_move rfl rfl) ?_
                  refine At.p (some 52) (P_add_i rfl rfl rfl (by omega)) ?_
                  refine At.p (some 11) (P_assign rfl rfl) ?_
                  refine At.nil ?_
                  refine At.next ?_
                  refine At.to [(2, _), (3, _), (4, _), (5, _), (8, _), (9, _), (11, _)] [(0, _), (1, _), (4, _), (5, _), (8, _), (9, _)] (AllL.cons_ (rfl) (AllL.cons_ (rfl) (AllL.cons_ (rfl) (AllL.cons_ (rfl) (AllL.cons_ (rfl) (AllL.cons_ (rfl) (AllL.cons_ (rfl) trivial))))))) (AllL.cons_ (rfl) (AllL.cons_ (rfl) (AllL.cons_ (rfl) (AllL.cons_ (rfl) (AllL.cons_ (rfl) (AllL.cons_ (rfl) trivial)))))) ?_
                  exact hKc3 _ _ _ (by omega) ⟨i + 1, _, _, _, rfl, rfl, rfl, by omega, g1, g2⟩
                · -- cond 50 f
                  obtain rfl : i = 8 := by simp at h50; omega
                  refine At.exit ?_
                  refine At.thn_e ?_
                  refine At.thn_e ?_
                  refine At.inb_hit ?_
                  refine At.next ?_
                  refine At.seq ?_
                  refine At.region ?_
                  refine At.q (some 63) (Q_loadA (k := 4) rfl rfl Try.underlying22 rfl sz22 (by first | omega | (simp <;> omega)) rfl) ?_
                  refine At.q (some 64) (Q_loadA (k := 5) rfl rfl Try.underlying24 rfl sz24 (by first | omega | (simp <;> omega)) rfl) ?_
                  refine At.s (S_callV (some 65) [] [] (vs := [_, _, _]) rfl en17 rfl V0 (by simp) (r_Block key nonce 0#32 hkey hnonce) (by rintro _ _ ⟨rfl, rfl⟩; rfl) ?_)
                  rintro _ _ ⟨rfl, rfl⟩
                  refine At.s (S_alloc (some 12) 12 (zs := (List.replicate 64 0#8).map u8V) rfl ze26 rfl (fun b12 => ?_))
                  refine At.s (S_storeA none (k := 12) (vs := _) rfl rfl rfl (by first | (rw [sz26]; simp <;> omega) | exact sz26) rfl (by first | (intro u hu; obtain ⟨z, _, rfl⟩ := List.mem_map.1 hu; rfl) | simp [Value.oneCell']) (by first | (simp; done) | (intro h; have h2 := congrArg List.length h; simp only [List.length_map, List.length_nil] at h2; omega) | (intro h; cases h)) rfl (by first | omega | (simp <;> omega) | rfl | (simp [*]; done)) ?_)
                  refine At.nil ?_
                  refine At.next ?_
                  refine At.seq ?_
                  refine At.region ?_
                  refine At.s (S_alloc (some 13) 13 (zs := (ownTo key nonce 0).map u8V) rfl ze22 rfl (fun b13 => ?_))
                  refine At.nil ?_
                  refine At.next ?_
                  refine At.seq ?_
                  refine At.seq ?_
                  refine At.region ?_
                  refine At.p (some 14) (P_assign rfl rfl) ?_
                  refine At.nil ?_
                  refine At.next ?_
                  refine At.block ?_
                  refine At.loopx (I := fun m fr H => ∃ i, m = 32 - i ∧ fr = frOf [(8, ptr b8 0), (9, .slice A9 (cntTo (cntTo (pad16 (pad16 more ++ b)) more.length 8) b.length 8).length c9), (12, ptr b12 0), (13, ptr b13 0), (14, iV (i : Int))] ∧ H = hOf [(8, ⟨true, b8, 0, 36, (List.replicate 16 0#8).map u8V, 0⟩), (9, ⟨true, b9, 0, 5, (cntTo (cntTo (pad16 (pad16 more ++ b)) more.length 8) b.length 8).map u8V, c9 - (cntTo (cntTo (pad16 (pad16 more ++ b)) more.length 8) b.length 8).length⟩), (12, ⟨true, b12, 0, 26, (blockS key 0#32 nonce).map u8V, 0⟩), (13, ⟨true, b13, 0, 22, (ownTo key nonce i).map u8V, 0⟩)] ∧ i ≤ 32) ?_ ?_
                  · intro Kc4 hKc4
                    refine At.to [(8, _), (9, _), (12, _), (13, _), (14, _)] [(8, _), (9, _), (12, _), (13, ⟨true, b13, 0, 22, (ownTo key nonce 0).map u8V, 0⟩)] (AllL.cons_ (rfl) (AllL.cons_ (rfl) (AllL.cons_ (rfl) (AllL.cons_ (rfl) (AllL.cons_ (rfl) trivial))))) (AllL.cons_ (rfl) (AllL.cons_ (rfl) (AllL.cons_ (rfl) (AllL.cons_ (rfl) trivial)))) ?_
                    exact hKc4 _ _ _ ⟨0, rfl, rfl, rfl, by omega⟩
                  · rintro m fr H ⟨i, rfl, rfl, rfl, hi⟩ Kc4 hKc4
                    refine At.seq ?_
                    refine At.seq ?_
                    refine At.region ?_
                    refine At.p (some 66) (P_move rfl rfl) ?_
                    refine At.p (some 67) (P_cmp rfl rfl rfl rfl rfl rfl) ?_
                    refine At.nil ?_
                    refine At.next ?_
                    refine At.cond rfl (fun h67 => ?_) (fun h67 => ?_)
                    · -- cond 67 t
                      have hlt : i < 32 := by simp at h67; omega
                      have hol := ownTo_len key nonce hi
                      refine At.skip ?_
                      refine At.next ?_
                      refine At.seq ?_
                      refine At.block ?_
                      refine At.region ?_
                      refine At.p (some 70) (P_move rfl rfl) ?_
                      refine At.p (some 71) (P_move rfl rfl) ?_
                      refine At.p (some 72) (P_indexAddr_arr1 rfl Try.underlying26 sz5 rfl rfl rfl (by omega)) ?_
                      refine At.q (some 73) (Q_loadM (k := 12) (0#8) rfl rfl Try.underlying5 rfl rfl (by first | omega | (simp <;> omega))) ?_
                      refine At.p (some 74) (P_indexAddr_arr1 rfl Try.underlying22 sz5 rfl rfl rfl (by omega)) ?_
                      refine At.s (S_storeM none (f := u8V) (k := 13) rfl rfl rfl sz5 rfl rfl rfl (by first | omega | (simp <;> omega)) ?_)
                      refine At.nil ?_
                      refine At.inb_n ?_
                      refine At.next ?_
                      refine At.region ?_
                      refine At.p (some 68) (P_move rfl rfl) ?_
                      refine At.p (some 69) (P_add_i rfl rfl rfl (by omega)) ?_
                      refine At.p (some 14) (P_assign rfl rfl) ?_
                      refine At.nil ?_
                      refine At.next ?_
                      refine At.to [(8, _), (9, _), (12, _), (13, _), (14, _)] [(8, _), (9, _), (12, _), (13, ⟨true, b13, 0, 22, (ownTo key nonce (i + 1)).map u8V, 0⟩)] (AllL.cons_ (rfl) (AllL.cons_ (rfl) (AllL.cons_ (rfl) (AllL.cons_ (rfl) (AllL.cons_ (rfl) trivial))))) (AllL.cons_ (rfl) (AllL.cons_ (rfl) (AllL.cons_ (rfl) (AllL.cons_ (congrArg (fun z => some (⟨true, b13, 0, 22, List.map u8V z, 0⟩ : Row)) (ownTo_set key nonce hlt)) trivial)))) ?_
                      exact hKc4 _ _ _ (by omega) ⟨i + 1, rfl, rfl, rfl, by omega⟩
                    · -- cond 67 f
                      obtain rfl : i = 32 := by simp at h67; omega
                      have hol := ownTo_len key nonce (show 32 ≤ 32 by decide)
                      have hol2 := ownK_len key nonce
                      refine At.exit ?_
                      refine At.thn_e ?_
                      refine At.thn_e ?_
                      refine At.inb_hit ?_
                      refine At.next ?_
                      refine At.seq ?_
                      refine At.region ?_
                      refine At.q (some 75) (Q_loadA (k := 13) rfl rfl Try.underlying22 rfl sz22 (by first | omega | (simp <;> omega)) rfl) ?_
                      refine At.p (some 76) (P_move rfl rfl) ?_
                      rw [ownTo_32]
                      refine At.s (S_callV (some 77) [(9, _)] [] (vs := [_, _]) rfl en22 rfl (VN (by simp) rfl View.all V0) (by simp) (r_TagN (key := ownK key nonce) (l := (cntTo (cntTo (pad16 (pad16 more ++ b)) more.length 8) b.length 8)) (n := (cntTo (cntTo (pad16 (pad16 more ++ b)) more.length 8) b.length 8).length) rfl (ownK_len _ _) (fun h => hA9 (by omega)) hc9 (by omega)) (by rintro _ _ ⟨rfl, rfl⟩; rfl) ?_)
                      rintro _ _ ⟨rfl, rfl⟩
                      refine At.s (S_storeA none (k := 8) (vs := _) rfl rfl rfl (by first | (rw [sz36]; simp <;> omega) | exact sz36) rfl (by first | (intro u hu; obtain ⟨z, _, rfl⟩ := List.mem_map.1 hu; rfl) | simp [Value.oneCell']) (by first | (simp; done) | (intro h; have h2 := congrArg List.length h; simp only [List.length_map, List.length_nil] at h2; omega) | (intro h; cases h)) rfl (by first | omega | (simp <;> omega) | rfl | (simp [*]; done)) ?_)
                      refine At.nil ?_
                      refine At.next ?_
                      refine At.ret ?_
                      refine At.giveV (.inl rfl) [] (rows' := []) (ResV.cellA (k := 8) rfl rfl Try.underlying36 rfl sz36 (by rw [List.length_map, htl]) rfl) rfl (by simp) (by simp) ?_
                      exact ⟨rfl, rfl⟩

theorem r_tagN {key nonce b more : List (BitVec 8)} {nb nm : Nat} {A A2 : Option Addr} {ca cb bq q br r : Nat} (hnb : b.length = nb) (hnm : more.length = nm) (hkey : key.length = 32) (hnonce : nonce.length = 12) (hA : 0 < nb → A = some ⟨bq, q, none⟩) (hB : 0 < nm → A2 = some ⟨br, r, none⟩) (hl : nb ≤ 100000) (hlm : nm ≤ 100000) :
    Con Try.prog 42 [aggK key, aggK nonce, .slice A nb ca, .slice A2 nm cb] [pRow bq q b, pRow br r more] (fun v rs => v = aggK (aTag key nonce b more) ∧ rs = []) := by
  subst hnb hnm
  exact r_tag key nonce b more A A2 ca cb bq q br r hkey hnonce hA hB hl hlm

theorem c_Seal (key nonce b more : List (BitVec 8)) (A A2 : Option Addr) (ca cb bq q br r : Nat) (hkey : key.length = 32) (hnonce : nonce.length = 12) (hA : 0 < b.length → A = some ⟨bq, q, none⟩) (hB : 0 < more.length → A2 = some ⟨br, r, none⟩) (hl : b.length ≤ 100000) (hlm : more.length ≤ 100000) :
    Con Try.prog 23 [aggK key, aggK nonce, .slice A b.length ca, .slice A2 more.length cb] [pRow bq q b, pRow br r more] (fun v rs => ∃ Aa ba ca', (0 < ca' → Aa = some ⟨ba, 0, none⟩) ∧ (sealS key nonce b more).length ≤ ca' ∧ v = .slice Aa (sealS key nonce b more).length ca' ∧ rs = [⟨true, ba, 0, 5, (sealS key nonce b more).map u8V, ca' - (sealS key nonce b more).length⟩]) := by
  refine Con.enter Try.func23 Try.ntmps23 (Nat.le_of_ble_eq_true rfl) rfl fun w => ?_
  refine At.seq ?_
  have hk32 : key.length = 32 := hkey
  have hn12 : nonce.length = 12 := hnonce
  have hsl : (streamS key 1#32 nonce b).length = b.length := streamS_len _ _ _ _
  have htl := aTag_len key nonce (streamS key 1#32 nonce b) more
  refine At.region ?_
  refine At.s (S_box (some 4) 4 (zs := key.map u8V) rfl rfl rfl (fun b4 => ?_))
  refine At.s (S_box (some 5) 5 (zs := nonce.map u8V) rfl rfl rfl (fun b5 => ?_))
  refine At.p (some 8) (P_assign rfl rfl) ?_
  refine At.nil ?_
  refine At.next ?_
  refine At.seq ?_
  refine At.region ?_
  refine At.q (some 11) (Q_loadA (k := 4) rfl rfl Try.underlying22 rfl sz22 (by first | omega | (simp <;> omega)) rfl) ?_
  refine At.q (some 12) (Q_loadA (k := 5) rfl rfl Try.underlying24 rfl sz24 (by first | omega | (simp <;> omega)) rfl) ?_
  refine At.p (some 13) (P_move rfl rfl) ?_
  refine At.s (S_callV (some 14) [(0, _)] [9] (vs := [_, _, _, _]) rfl en18 rfl (VN (by simp) rfl View.all V0) (by simp) (c_StreamN (key := key) (nonce := nonce) (count := 1#32) (l := b) (n := b.length) rfl hkey hnonce hA (by omega)) (by rintro _ _ ⟨A9, b9, c9, g9a, g9b, rfl, rfl⟩; rfl) ?_)
  rintro _ _ ⟨A9, b9, c9, g9a, g9b, rfl, rfl⟩
  refine At.p (some 9) (P_assign rfl rfl) ?_
  refine At.nil ?_
  refine At.next ?_
  refine At.seq ?_
  refine At.region ?_
  refine At.q (some 15) (Q_loadA (k := 4) rfl rfl Try.underlying22 rfl sz22 (by first | omega | (simp <;> omega)) rfl) ?_
  refine At.q (some 16) (Q_loadA (k := 5) rfl rfl Try.underlying24 rfl sz24 (by first | omega | (simp <;> omega)) rfl) ?_
  refine At.p (some 17) (P_move rfl rfl) ?_
  refine At.p (some 18) (P_move rfl rfl) ?_
  refine At.s (S_callV (some 19) [(9, _), (1, _)] [] (vs := [_, _, _, _]) rfl en40 rfl (VN (by simp) rfl View.all (VN (by simp) rfl View.all V0)) (by simp) (c_tagN (b := (streamS key 1#32 nonce b)) (nb := b.length) (nm := more.length) hsl rfl hkey hnonce (fun h => g9a (by omega)) hB hl hlm) (by rintro _ _ ⟨rfl, rfl⟩; rfl) ?_)
  rintro _ _ ⟨rfl, rfl⟩
  refine At.s (S_alloc (some 10) 10 (zs := (List.replicate 16 0#8).map u8V) rfl ze36 rfl (fun b10 => ?_))
  refine At.s (S_storeA none (k := 10) (vs := _) rfl rfl rfl (by first | (rw [sz36]; simp <;> omega) | exact sz36) rfl (by first | (intro u hu; obtain ⟨z, _, rfl⟩ := List.mem_map.1 hu; rfl) | simp [Value.oneCell']) (by first | (simp; done) | (intro h; have h2 := congrArg List.length h; simp only [List.length_map, List.length_nil] at h2; omega) | (intro h; cases h)) rfl (by first | omega | (simp <;> omega) | rfl | (simp [*]; done)) ?_)
  refine At.nil ?_
  refine At.next ?_
  refine At.seq ?_
  refine At.region ?_
  refine At.p (some 20) (P_move rfl rfl) ?_
  refine At.p (some 21) (P_slice_arr1 rfl Try.underlying36 sz5 rfl rfl rfl rfl (by omega) (by omega) (by omega) (by omega)) ?_
  refine At.s (S_appendM (some 22) 9 (sealS key nonce b more) (f := u8V) (l := (streamS key 1#32 nonce b)) (L := aTag key nonce (streamS key 1#32 nonce b) more) rfl Try.underlying31 Try.underlying31 (.inr ⟨_, rfl⟩) sz5 by5 ze5 rfl rfl (fun h => ⟨g9a h, rfl⟩) hsl (by omega) (Src.row (k := 10) (j := 0) rfl (fun _ => rfl) (fun _ => ⟨rfl, rfl, rfl⟩) (by rw [List.drop_zero, List.take_of_length_le (by rw [List.length_map, aTag_len]; decide)]) (by rw [List.length_map, aTag_len])) (fun _ => rfl) (by omega) (by omega) rfl (aTag_len _ _ _ _) ?_)
  intro A22 b22 c22 g22a g22b
  refine At.p (some 8) (P_assign rfl rfl) ?_
  refine At.nil ?_
  refine At.next ?_
  refine At.ret ?_
  refine At.give (.inl rfl) [9] (rows' := [_]) (vs := [_]) rfl ⟨rfl, trivial⟩ rfl (by simp) (by simp) ⟨A22, b22, c22, g22a, g22b, rfl, rfl⟩

theorem c_SealN {key nonce b more : List (BitVec 8)} {nb nm : Nat} {A A2 : Option Addr} {ca cb bq q br r : Nat} (hnb : b.length = nb) (hnm : more.length = nm) (hkey : key.length = 32) (hnonce : nonce.length = 12) (hA : 0 < nb → A = some ⟨bq, q, none⟩) (hB : 0 < nm → A2 = some ⟨br, r, none⟩) (hl : nb ≤ 100000) (hlm : nm ≤ 100000) :
    Con Try.prog 23 [aggK key, aggK nonce, .slice A nb ca, .slice A2 nm cb] [pRow bq q b, pRow br r more] (fun v rs => ∃ Aa ba ca', (0 < ca' → Aa = some ⟨ba, 0, none⟩) ∧ (sealS key nonce b more).length ≤ ca' ∧ v = .slice Aa (sealS key nonce b more).length ca' ∧ rs = [⟨true, ba, 0, 5, (sealS key nonce b more).map u8V, ca' - (sealS key nonce b more).length⟩]) := by
  subst hnb hnm
  exact c_Seal key nonce b more A A2 ca cb bq q br r hkey hnonce hA hB hl hlm

theorem r_Seal (key nonce b more : List (BitVec 8)) (A A2 : Option Addr) (ca cb bq q br r : Nat) (hkey : key.length = 32) (hnonce : nonce.length = 12) (hA : 0 < b.length → A = some ⟨bq, q, none⟩) (hB : 0 < more.length → A2 = some ⟨br, r, none⟩) (hl : b.length ≤ 100000) (hlm : more.length ≤ 100000) :
    Con Try.prog 26 [aggK key, aggK nonce, .slice A b.length ca, .slice A2 more.length cb] [pRow bq q b, pRow br r more] (fun v rs => ∃ Aa ba ca', (0 < ca' → Aa = some ⟨ba, 0, none⟩) ∧ (sealS key nonce b more).length ≤ ca' ∧ v = .slice Aa (sealS key nonce b more).length ca' ∧ rs = [⟨true, ba, 0, 5, (sealS key nonce b more).map u8V, ca' - (sealS key nonce b more).length⟩]) := by
  refine Con.enter Try.func26 Try.ntmps26 (Nat.le_of_ble_eq_true rfl) rfl fun w => ?_
  refine At.seq ?_
  have hk32 : key.length = 32 := hkey
  have hn12 : nonce.length = 12 := hnonce
  have hsl : (streamS key 1#32 nonce b).length = b.length := streamS_len _ _ _ _
  have htl := aTag_len key nonce (streamS key 1#32 nonce b) more
  refine At.region ?_
  refine At.s (S_box (some 4) 4 (zs := key.map u8V) rfl rfl rfl (fun b4 => ?_))
  refine At.s (S_box (some 5) 5 (zs := nonce.map u8V) rfl rfl rfl (fun b5 => ?_))
  refine At.p (some 8) (P_assign rfl rfl) ?_
  refine At.nil ?_
  refine At.next ?_
  refine At.seq ?_
  refine At.region ?_
  refine At.q (some 11) (Q_loadA (k := 4) rfl rfl Try.underlying22 rfl sz22 (by first | omega | (simp <;> omega)) rfl) ?_
  refine At.q (some 12) (Q_loadA (k := 5) rfl rfl Try.underlying24 rfl sz24 (by first | omega | (simp <;> omega)) rfl) ?_
  refine At.p (some 13) (P_move rfl rfl) ?_
  refine At.s (S_callV (some 14) [(0, _)] [9] (vs := [_, _, _, _]) rfl en19 rfl (VN (by simp) rfl View.all V0) (by simp) (r_StreamN (key := key) (nonce := nonce) (count := 1#32) (l := b) (n := b.length) rfl hkey hnonce hA (by omega)) (by rintro _ _ ⟨A9, b9, c9, g9a, g9b, rfl, rfl⟩; rfl) ?_)
  rintro _ _ ⟨A9, b9, c9, g9a, g9b, rfl, rfl⟩
  refine At.p (some 9) (P_assign rfl rfl) ?_
  refine At.nil ?_
  refine At.next ?_
  refine At.seq ?_
  refine At.region ?_
  refine At.q (some 15) (Q_loadA (k := 4) rfl rfl Try.underlying22 rfl sz22 (by first | omega | (simp <;> omega)) rfl) ?_
  refine At.q (some 16) (Q_loadA (k := 5) rfl rfl Try.underlying24 rfl sz24 (by first | omega | (simp <;> omega)) rfl) ?_
  refine At.p (some 17) (P_move rfl rfl) ?_
  refine At.p (some 18) (P_move rfl rfl) ?_
  refine At.s (S_callV (some 19) [(9, _), (1, _)] [] (vs := [_, _, _, _]) rfl en42 rfl (VN (by simp) rfl View.all (VN (by simp) rfl View.all V0)) (by simp) (r_tagN (b := (streamS key 1#32 nonce b)) (nb := b.length) (nm := more.length) hsl rfl hkey hnonce (fun h => g9a (by omega)) hB hl hlm) (by rintro _ _ ⟨rfl, rfl⟩; rfl) ?_)
  rintro _ _ ⟨rfl, rfl⟩
  refine At.s (S_alloc (some 10) 10 (zs := (List.replicate 16 0#8).map u8V) rfl ze36 rfl (fun b10 => ?_))
  refine At.s (S_storeA none (k := 10) (vs := _) rfl rfl rfl (by first | (rw [sz36]; simp <;> omega) | exact sz36) rfl (by first | (intro u hu; obtain ⟨z, _, rfl⟩ := List.mem_map.1 hu; rfl) | simp [Value.oneCell']) (by first | (simp; done) | (intro h; have h2 := congrArg List.length h; simp only [List.length_map, List.length_nil] at h2; omega) | (intro h; cases h)) rfl (by first | omega | (simp <;> omega) | rfl | (simp [*]; done)) ?_)
  refine At.nil ?_
  refine At.next ?_
  refine At.seq ?_
  refine At.region ?_
  refine At.p (some 20) (P_move rfl rfl) ?_
  refine At.p (some 21) (P_slice_arr1 rfl Try.underlying36 sz5 rfl rfl rfl rfl (by omega) (by omega) (by omega) (by omega)) ?_
  refine At.s (S_appendM (some 22) 9 (sealS key nonce b more) (f := u8V) (l := (streamS key 1#32 nonce b)) (L := aTag key nonce (streamS key 1#32 nonce b) more) rfl Try.underlying31 Try.underlying31 (.inr ⟨_, rfl⟩) sz5 by5 ze5 rfl rfl (fun h => ⟨g9a h, rfl⟩) hsl (by omega) (Src.row (k := 10) (j := 0) rfl (fun _ => rfl) (fun _ => ⟨rfl, rfl, rfl⟩) (by rw [List.drop_zero, List.take_of_length_le (by rw [List.length_map, aTag_len]; decide)]) (by rw [List.length_map, aTag_len])) (fun _ => rfl) (by omega) (by omega) rfl (aTag_len _ _ _ _) ?_)
  intro A22 b22 c22 g22a g22b
  refine At.p (some 8) (P_assign rfl rfl) ?_
  refine At.nil ?_
  refine At.next ?_
  refine At.ret ?_
  refine At.give (.inl rfl) [9] (rows' := [_]) (vs := [_]) rfl ⟨rfl, trivial⟩ rfl (by simp) (by simp) ⟨A22, b22, c22, g22a, g22b, rfl, rfl⟩

theorem r_SealN {key nonce b more : List (BitVec 8)} {nb nm : Nat} {A A2 : Option Addr} {ca cb bq q br r : Nat} (hnb : b.length = nb) (hnm : more.length = nm) (hkey : key.length = 32) (hnonce : nonce.length = 12) (hA : 0 < nb → A = some ⟨bq, q, none⟩) (hB : 0 < nm → A2 = some ⟨br, r, none⟩) (hl : nb ≤ 100000) (hlm : nm ≤ 100000) :
    Con Try.prog 26 [aggK key, aggK nonce, .slice A nb ca, .slice A2 nm cb] [pRow bq q b, pRow br r more] (fun v rs => ∃ Aa ba ca', (0 < ca' → Aa = some ⟨ba, 0, none⟩) ∧ (sealS key nonce b more).length ≤ ca' ∧ v = .slice Aa (sealS key nonce b more).length ca' ∧ rs = [⟨true, ba, 0, 5, (sealS key nonce b more).map u8V, ca' - (sealS key nonce b more).length⟩]) := by
  subst hnb hnm
  exact r_Seal key nonce b more A A2 ca cb bq q br r hkey hnonce hA hB hl hlm
end Go.Proofs.Ytkdkpjnlknofeaa
