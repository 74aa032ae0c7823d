import Derived.Test.YtkdkpjnlknofeaaC
namespace Go.Proofs.Ytkdkpjnlknofeaa
set_option maxRecDepth 20000
set_option linter.unusedVariables false
set_option linter.unusedSimpArgs false
open Go.SE Go.RowKit

def keyAt (key : List (BitVec 8)) (count : BitVec 32) (nonce : List (BitVec 8)) (m : Nat) : BitVec 8 := (blockS key (count + BitVec.ofNat 32 (m / 64)) nonce).getD (m % 64) 0#8
def strTo (l : List (BitVec 8)) (K : Nat → BitVec 8) (m : Nat) : List (BitVec 8) := (List.range m).map (fun j => l.getD j 0#8 ^^^ K j) ++ l.drop m
theorem strTo_len {l : List (BitVec 8)} {K : Nat → BitVec 8} {m : Nat} (h : m ≤ l.length) : (strTo l K m).length = l.length := by simp [strTo]; omega
theorem strTo_0 (l : List (BitVec 8)) (K : Nat → BitVec 8) : strTo l K 0 = l := by simp [strTo]
theorem strTo_at {l : List (BitVec 8)} {K : Nat → BitVec 8} {m : Nat} (h : m < l.length) : (strTo l K m).getD m 0#8 = l.getD m 0#8 := by
  simp [strTo, List.getD_eq_getElem?_getD, List.getElem?_append_right]
theorem strTo_set {l : List (BitVec 8)} {K : Nat → BitVec 8} {m : Nat} (h : m < l.length) : (strTo l K m).set m ((strTo l K m).getD m 0#8 ^^^ K m) = strTo l K (m + 1) := by
  rw [strTo_at h]
  unfold strTo
  rw [List.set_append_right _ _ (by simp)]
  simp only [List.length_map, List.length_range, Nat.sub_self]
  rw [List.drop_eq_getElem_cons h, List.set_cons_zero, List.range_succ]
  simp
def streamS (key : List (BitVec 8)) (count : BitVec 32) (nonce l : List (BitVec 8)) : List (BitVec 8) := (List.range l.length).map fun j => l.getD j 0#8 ^^^ keyAt key count nonce j
theorem streamS_len (key : List (BitVec 8)) (count : BitVec 32) (nonce l : List (BitVec 8)) : (streamS key count nonce l).length = l.length := by simp [streamS]
theorem strTo_all (key : List (BitVec 8)) (count : BitVec 32) (nonce l : List (BitVec 8)) {m : Nat} (h : m = l.length) : strTo l (keyAt key count nonce) m = streamS key count nonce l := by
  subst h
  simp [strTo, streamS]
theorem keyAt_chunk (key : List (BitVec 8)) (count : BitVec 32) (nonce : List (BitVec 8)) {i j : Nat} (hj : j < 64) : keyAt key count nonce (i * 64 + j) = (blockS key (count + BitVec.ofNat 32 i) nonce).getD j 0#8 := by
  unfold keyAt
  rw [show (i * 64 + j) / 64 = i by omega, show (i * 64 + j) % 64 = j by omega]

theorem c_CloneB (A : Option Addr) (n c bq q s0 s1 : Nat) (cs : List Value) (hA : 0 < n → A = some ⟨bq, q, none⟩) (hl : cs.length = n * 1) (h1 : ∀ u ∈ cs, u.oneCell' = true) (hn : n ≤ 1000000) :
    Con Try.prog 32 [.slice A n c] [⟨false, bq, q, s0, cs, s1⟩] (fun v rs => ∃ A' b' c', (0 < c' → A' = some ⟨b', 0, none⟩) ∧ n ≤ c' ∧ v = .slice A' n c' ∧ rs = [⟨true, b', 0, 5, cs, (c' - n) * 1⟩]) := by
  refine Con.enter Try.func32 Try.ntmps32 (Nat.le_of_ble_eq_true rfl) rfl fun w => ?_
  refine At.seq ?_
  refine At.region ?_
  refine At.p (some 2) (P_assign rfl rfl) ?_
  refine At.nil ?_
  refine At.next ?_
  refine At.seq ?_
  refine At.seq ?_
  refine At.region ?_
  refine At.p (some 3) (P_move rfl rfl) ?_
  refine At.p (some 4) (P_eql_slnil rfl Try.underlying31 rfl rfl) ?_
  refine At.nil ?_
  refine At.next ?_
  refine At.cond rfl (fun h4 => ?_) (fun h4 => ?_)
  · -- cond 4 t
    refine At.seq ?_
    refine At.region ?_
    refine At.p (some 2) (P_assign rfl rfl) ?_
    refine At.nil ?_
    refine At.next ?_
    refine At.ret ?_
    refine At.thn_r ?_
    have hn : n = 0 := Nat.eq_zero_of_not_pos (fun h => by have h2 := hA h; subst h2; cases h4)
    have hc : cs = [] := List.eq_nil_of_length_eq_zero (by simp [hl, hn])
    subst hn hc
    refine At.empty 1 0 5 ?_
    refine At.give (.inl rfl) [1] (rows' := [_]) (vs := [_]) rfl ⟨rfl, trivial⟩ rfl (by simp) (by simp) ⟨none, 0, 0, by simp, by simp, rfl, rfl⟩
  · -- cond 4 f
    refine At.skip ?_
    refine At.next ?_
    refine At.seq ?_
    refine At.region ?_
    refine At.s (S_buildSlice0 (some 5) 1 rfl Try.underlying31 sz5 (fun b1 => ?_))
    refine At.p (some 6) (P_move rfl rfl) ?_
    refine At.s (S_appendN (some 7) 1 n cs (cells := []) (rest := 0) (b := b1) rfl Try.underlying31 Try.underlying31 (.inr ⟨_, rfl⟩) sz5 by5 ze5 rfl rfl (fun h => absurd h (by omega)) rfl rfl (by omega) (Src.row (k := 0)  (b := bq) (q := q) rfl hA (fun _ => ⟨rfl, rfl, rfl⟩) (by rw [List.drop_zero, ← hl, List.take_length]) hl) h1 (by decide) (by omega) (by omega) (by omega) rfl ?_)
    intro A1 b1 c1 g1 g2
    refine At.p (some 2) (P_assign rfl rfl) ?_
    refine At.nil ?_
    refine At.next ?_
    refine At.ret ?_
    refine At.give (.inl rfl) [1] (rows' := [_]) (vs := [_]) rfl ⟨rfl, trivial⟩ rfl (by simp) (by simp) ⟨A1, b1, c1, g1, g2, rfl, rfl⟩

theorem c_Stream (key nonce l : List (BitVec 8)) (count : BitVec 32) (A : Option Addr) (ca bq q : Nat) (hkey : key.length = 32) (hnonce : nonce.length = 12) (hA : 0 < l.length → A = some ⟨bq, q, none⟩) (hl : l.length ≤ 1000000) :
    Con Try.prog 18 [aggB key, u32V count, aggB nonce, .slice A l.length ca] [bytesRow bq q l] (fun v rs => ∃ A2 b2 c2, (0 < c2 → A2 = some ⟨b2, 0, none⟩) ∧ l.length ≤ c2 ∧ v = .slice A2 l.length c2 ∧ rs = [⟨true, b2, 0, 5, (streamS key count nonce l).map u8V, c2 - l.length⟩]) := by
  refine Con.enterM Try.func18 Try.ntmps18 (Nat.le_of_ble_eq_true rfl) rfl fun w hS => ?_
  refine At.seq ?_
  have hk32 : key.length = 32 := hkey
  refine At.region ?_
  refine At.s (S_box (some 4) 4 (zs := key.map u8V) rfl rfl rfl (fun b4 => ?_))
  refine At.s (S_box (some 5) 5 rfl rfl rfl (fun b5 => ?_))
  refine At.s (S_box (some 6) 6 (zs := nonce.map u8V) rfl rfl rfl (fun b6 => ?_))
  refine At.p (some 8) (P_assign rfl rfl) ?_
  refine At.nil ?_
  refine At.next ?_
  refine At.seq ?_
  refine At.region ?_
  refine At.p (some 13) (P_move rfl rfl) ?_
  refine At.s (S_callV (some 14) [(0, _)] [7] (vs := [_]) rfl en32 rfl (VN (by simp) rfl View.all V0) (by simp) (c_CloneB A l.length ca bq q 0 0 (l.map u8V) hA (by simp) (by intro u hu; obtain ⟨z, _, rfl⟩ := List.mem_map.1 hu; rfl) hl) (by rintro _ _ ⟨A7, b7, c7, g7a, g7b, rfl, rfl⟩; rfl) ?_)
  rintro _ _ ⟨A7, b7, c7, g7a, g7b, rfl, rfl⟩
  refine At.p (some 9) (P_assign rfl rfl) ?_
  refine At.nil ?_
  refine At.next ?_
  refine At.seq ?_
  refine At.seq ?_
  refine At.region ?_
  refine At.p (some 15) (P_move rfl rfl) ?_
  refine At.s (S_callV (some 16) [] [8, 9] (vs := [_, _]) rfl en33 rfl V0 (by simp) (c_Chunk A7 l.length c7 64 (by decide)) (by rintro _ _ ⟨bs, bn, rfl, rfl⟩; rfl) ?_)
  rintro _ _ ⟨bs, bn, rfl, rfl⟩
  refine At.nil ?_
  refine At.next ?_
  refine At.block ?_
  refine At.to [(4, ptr b4 0), (5, ptr b5 0), (6, ptr b6 0), (9, .slice A7 l.length c7), (16, _)] [(4, _), (5, ⟨true, b5, 0, 23, [u32V (count + BitVec.ofNat 32 0)], 0⟩), (6, _), (7, ⟨true, b7, 0, 5, (strTo l (keyAt key count nonce) (min (0 * 64) l.length)).map u8V, (c7 - l.length) * 1⟩), (8, _), (9, _)] (AllL.cons_ (rfl) (AllL.cons_ (rfl) (AllL.cons_ (rfl) (AllL.cons_ (rfl) (AllL.cons_ (rfl) trivial))))) (AllL.cons_ (rfl) (AllL.cons_ (by rw [show count + BitVec.ofNat 32 0 = count from BitVec.add_zero _]; rfl) (AllL.cons_ (rfl) (AllL.cons_ (by rw [Nat.zero_mul, Nat.zero_min, strTo_0]; rfl) (AllL.cons_ (rfl) (AllL.cons_ (rfl) trivial)))))) ?_
  refine At.range (C2 bs bn (.slice A7 l.length c7) (iV ((64 : Nat) : Int))) (it_Chunk A7 l.length c7 64 bs bn (by decide) g7b (by omega) (by decide)) (fun i H => ∃ _u : Unit, H = hOf [(4, ⟨true, b4, 0, 22, key.map u8V, 0⟩), (5, ⟨true, b5, 0, 23, [u32V (count + BitVec.ofNat 32 i)], 0⟩), (6, ⟨true, b6, 0, 24, nonce.map u8V, 0⟩), (7, ⟨true, b7, 0, 5, (strTo l (keyAt key count nonce) (min (i * 64) l.length)).map u8V, (c7 - l.length) * 1⟩), (8, ⟨true, bs, 0, 31, [.slice A7 l.length c7], 0⟩), (9, ⟨true, bn, 0, 3, [iV ((64 : Nat) : Int)], 0⟩)] ∧ True) (fun H => False) (fun x => frOf [(4, ptr b4 0), (5, ptr b5 0), (6, ptr b6 0), (10, x)]) rfl en45 rfl hS ?_ ?_ ?_ ?_ ?_ ?_
  · rintro i _ w ⟨_u, rfl, _⟩ hc hh
    exact ⟨hh.cell hc (k := 8) (j := 0) rfl rfl, hh.cell hc (k := 9) (j := 0) rfl rfl⟩
  · exact ⟨(), rfl, trivial⟩
  · intro lR nR wbR XR x H' K hKa
    refine At.regionR (fun ⟨_, _, h⟩ => h) ?_
    refine At.p (some 10) (P_assign rfl rfl) ?_
    refine At.nil ?_
    refine At.next ?_
    exact At.toF [(4, _), (5, _), (6, _), (10, _)] (AllL.cons_ (rfl) (AllL.cons_ (rfl) (AllL.cons_ (rfl) (AllL.cons_ (rfl) trivial)))) hKa
  · rintro lR nR wbR XR i x _ hx ⟨_u, rfl, _⟩ Q' hK hR hno
    obtain ⟨hlt, rfl⟩ := chunksV_some (by decide) hx
    have hbl := blockS_len key (count + BitVec.ofNat 32 i) nonce
    refine At.blockR ?_
    refine At.seqR ?_
    refine At.regionR (fun ⟨a, w, h⟩ => hno a w h) ?_
    refine At.q (some 18) (Q_loadA (k := 4) rfl rfl Try.underlying22 rfl sz22 (by first | omega | (simp <;> omega)) rfl) ?_
    refine At.q (some 19) (Q_loadO (k := 5) rfl rfl Try.underlying23 rfl rfl rfl) ?_
    refine At.q (some 20) (Q_loadA (k := 6) rfl rfl Try.underlying24 rfl sz24 (by first | omega | (simp <;> omega)) rfl) ?_
    refine At.s (S_callV (some 21) [] [] (vs := [_, _, _]) rfl en16 rfl V0 (by simp) (c_Block key nonce (count + BitVec.ofNat 32 i) hkey hnonce) (by rintro _ _ ⟨rfl, rfl⟩; rfl) ?_)
    rintro _ _ ⟨rfl, rfl⟩
    refine At.s (S_alloc (some 11) 10 (zs := (List.replicate 64 0#8).map u8V) rfl ze26 rfl (fun b10 => ?_))
    refine At.s (S_storeA none (k := 10) (vs := _) rfl rfl rfl (by first | (rw [sz26]; simp <;> omega) | exact sz26) rfl (by first | (intro u hu; obtain ⟨z, _, rfl⟩ := List.mem_map.1 hu; rfl) | simp [Value.oneCell']) (by first | (simp; done) | (intro h; have h2 := congrArg List.length h; simp only [List.length_map, List.length_nil] at h2; omega) | (intro h; cases h)) rfl (by first | omega | (simp <;> omega) | rfl | (simp [*]; done)) ?_)
    refine At.nil ?_
    refine At.next ?_
    refine At.seqR ?_
    refine At.seqR ?_
    refine At.regionR (fun ⟨a, w, h⟩ => hno a w h) ?_
    refine At.p (some 22) (P_move rfl rfl) ?_
    refine At.p (some 23) (P_len_sl rfl rfl ⟨_, Try.underlying31⟩ rfl) ?_
    refine At.p (some 24) (P_move rfl rfl) ?_
    refine At.nil ?_
    refine At.next ?_
    refine At.blockR ?_
    refine At.loopxR (I := fun m fr H => ∃ j, m = min 64 (l.length - i * 64) - j ∧ fr = frOf [(4, ptr b4 0), (5, ptr b5 0), (6, ptr b6 0), (10, chunkV A7 l.length 64 i), (11, ptr b10 0), (23, iV ((min 64 (l.length - i * 64) : Nat) : Int)), (24, iV (j : Int))] ∧ H = hOf [(4, ⟨true, b4, 0, 22, key.map u8V, 0⟩), (5, ⟨true, b5, 0, 23, [u32V (count + BitVec.ofNat 32 i)], 0⟩), (6, ⟨true, b6, 0, 24, nonce.map u8V, 0⟩), (7, ⟨true, b7, 0, 5, (strTo l (keyAt key count nonce) (i * 64 + j)).map u8V, (c7 - l.length) * 1⟩), (8, ⟨true, bs, 0, 31, [.slice A7 l.length c7], 0⟩), (9, ⟨true, bn, 0, 3, [iV ((64 : Nat) : Int)], 0⟩), (10, ⟨true, b10, 0, 26, (blockS key (count + BitVec.ofNat 32 i) nonce).map u8V, 0⟩)] ∧ j ≤ min 64 (l.length - i * 64)) ?_ ?_
    · intro Kc0 hKc0
      refine At.to [(4, _), (5, _), (6, _), (10, _), (11, _), (23, _), (24, _)] [(4, _), (5, _), (6, _), (7, ⟨true, b7, 0, 5, (strTo l (keyAt key count nonce) (i * 64 + 0)).map u8V, (c7 - l.length) * 1⟩), (8, _), (9, _), (10, _)] (AllL.cons_ (rfl) (AllL.cons_ (rfl) (AllL.cons_ (rfl) (AllL.cons_ (rfl) (AllL.cons_ (rfl) (AllL.cons_ (rfl) (AllL.cons_ (rfl) trivial))))))) (AllL.cons_ (rfl) (AllL.cons_ (rfl) (AllL.cons_ (rfl) (AllL.cons_ (by rw [show i * 64 + 0 = min (i * 64) l.length by omega]; rfl) (AllL.cons_ (rfl) (AllL.cons_ (rfl) (AllL.cons_ (rfl) trivial))))))) ?_
      exact hKc0 _ _ _ ⟨0, rfl, rfl, rfl, by omega⟩
    · rintro m fr H ⟨j, rfl, rfl, rfl, hj⟩ Kc0 hKc0
      refine At.seqR ?_
      refine At.regionR (fun ⟨a, w, h⟩ => hno a w h) ?_
      refine At.p (some 25) (P_cmp rfl rfl rfl rfl rfl rfl) ?_
      refine At.nil ?_
      refine At.next ?_
      refine At.seqR ?_
      refine At.condR rfl (fun h25 => ?_) (fun h25 => ?_)
      · -- cond 25 t
        have hlt2 : j < min 64 (l.length - i * 64) := by simp at h25; omega
        have hsl : (strTo l (keyAt key count nonce) (i * 64 + j)).length = l.length := strTo_len (by omega)
        refine At.skipR ?_
        refine At.next ?_
        refine At.seqR ?_
        refine At.blockR ?_
        refine At.seqR ?_
        refine At.regionR (fun ⟨a, w, h⟩ => hno a w h) ?_
        refine At.p (some 26) (P_move rfl rfl) ?_
        refine At.p (some 12) (P_assign rfl rfl) ?_
        refine At.nil ?_
        refine At.next ?_
        refine At.drawsR 7 [] [.q false [0, 1, 2, 3, 4, 5, 6]] (by kernel_rfl) (by kernel_rfl) (fun ⟨a, w, h⟩ => hno a w h) ?_
        refine At.wp (some 27) (P_move rfl rfl) ?_
        refine At.wp (some 28) (P_move rfl rfl) ?_
        refine At.wp (some 29) (P_indexAddr_sl1 rfl Try.underlying31 sz5 rfl (chunk_addr0 (g7a (by omega)) _) rfl rfl (by omega)) ?_
        refine At.wq (some 30) (Q_loadM (k := 7) (0#8) rfl rfl Try.underlying5 rfl rfl (by first | omega | (simp <;> omega))) ?_
        refine At.wp (some 31) (P_move rfl rfl) ?_
        refine At.wp (some 32) (P_indexAddr_arr1 rfl Try.underlying26 sz5 rfl rfl rfl (by omega)) ?_
        refine At.wq (some 33) (Q_loadM (k := 10) (0#8) rfl rfl Try.underlying5 rfl rfl (by first | omega | (simp <;> omega))) ?_
        refine At.wqn ?_
        refine At.wt rfl ?_
        refine At.p (some 34) (P_xor_w UK.u8 rfl rfl rfl) ?_
        refine At.p (some 35) (P_indexAddr_sl1 rfl Try.underlying31 sz5 rfl (chunk_addr0 (g7a (by omega)) _) rfl rfl (by omega)) ?_
        refine At.s (S_storeM none (f := u8V) (k := 7) rfl rfl rfl sz5 rfl rfl rfl (by first | omega | (simp <;> omega)) ?_)
        refine At.nil ?_
        refine At.inb_n ?_
        refine At.next ?_
        refine At.regionR (fun ⟨a, w, h⟩ => hno a w h) ?_
        refine At.p (some 36) (P_add_i rfl rfl rfl (by omega)) ?_
        refine At.p (some 24) (P_move rfl rfl) ?_
        refine At.nil ?_
        refine At.next ?_
        refine At.to [(4, _), (5, _), (6, _), (10, _), (11, _), (23, _), (24, _)] [(4, _), (5, _), (6, _), (7, ⟨true, b7, 0, 5, (strTo l (keyAt key count nonce) (i * 64 + (j + 1))).map u8V, (c7 - l.length) * 1⟩), (8, _), (9, _), (10, _)] (AllL.cons_ (rfl) (AllL.cons_ (rfl) (AllL.cons_ (rfl) (AllL.cons_ (rfl) (AllL.cons_ (rfl) (AllL.cons_ (rfl) (AllL.cons_ (rfl) trivial))))))) (AllL.cons_ (rfl) (AllL.cons_ (rfl) (AllL.cons_ (rfl) (AllL.cons_ (congrArg (fun z => some (⟨true, b7, 0, 5, List.map u8V z, (c7 - l.length) * 1⟩ : Row)) (by rw [← keyAt_chunk key count nonce (show j < 64 by omega), strTo_set (by omega)]; rfl)) (AllL.cons_ (rfl) (AllL.cons_ (rfl) (AllL.cons_ (rfl) trivial))))))) ?_
        exact hKc0 _ _ _ (by omega) ⟨j + 1, rfl, rfl, rfl, by omega⟩
      · -- cond 25 f
        obtain rfl : j = min 64 (l.length - i * 64) := by simp at h25; omega
        refine At.exitR ?_
        refine At.thn_e ?_
        refine At.thn_e ?_
        refine At.inb_hit ?_
        refine At.next ?_
        refine At.regionR (fun ⟨a, w, h⟩ => hno a w h) ?_
        refine At.q (some 37) (Q_loadO (k := 5) rfl rfl Try.underlying23 rfl rfl rfl) ?_
        refine At.p (some 38) (P_add_w UK.u32 (b := 1#32) rfl rfl rfl) ?_
        refine At.s (S_store none (k := 5) rfl rfl rfl sz23 rfl rfl rfl (by first | omega | (simp <;> omega)) ?_)
        refine At.nil ?_
        refine At.inb_n ?_
        refine At.toH [(4, _), (5, ⟨true, b5, 0, 23, [u32V (count + BitVec.ofNat 32 (i + 1))], 0⟩), (6, _), (7, ⟨true, b7, 0, 5, (strTo l (keyAt key count nonce) (min ((i + 1) * 64) l.length)).map u8V, (c7 - l.length) * 1⟩), (8, _), (9, _)] (AllL.cons_ (rfl) (AllL.cons_ (by rw [show count + BitVec.ofNat 32 (i + 1) = count + BitVec.ofNat 32 i + 1#32 by rw [BitVec.add_assoc, BitVec.ofNat_add]]; rfl) (AllL.cons_ (rfl) (AllL.cons_ (by rw [show min ((i + 1) * 64) l.length = i * 64 + min 64 (l.length - i * 64) by omega]; rfl) (AllL.cons_ (rfl) (AllL.cons_ (rfl) trivial)))))) ?_
        exact hK _ _ ⟨(), rfl, trivial⟩
  · rintro D w1 hX hD _ ⟨_u, rfl, _⟩
    have hm : min ((chunksV A7 l.length 64).length * 64) l.length = l.length := by rw [chunksV_len]; omega
    rw [hm, strTo_all key count nonce l rfl]
    refine At.inb_n ?_
    refine At.next ?_
    refine At.seq ?_
    refine At.region ?_
    refine At.p (some 39) (P_move rfl rfl) ?_
    refine At.p (some 8) (P_assign rfl rfl) ?_
    refine At.nil ?_
    refine At.next ?_
    refine At.ret ?_
    refine At.giveM hX hD (.inl rfl) [7] (rows' := [_]) (ResV.tmps (vs := [_]) rfl ⟨rfl, trivial⟩) rfl (by simp) (by simp) ?_
    exact ⟨A7, b7, c7, g7a, g7b, rfl, by rw [Nat.mul_one]⟩
  · intro D w1 hX hD H' hr
    exact hr.elim

def upTo (l : List (BitVec 8)) (K : Nat → BitVec 8) (m : Nat) : List (BitVec 8) := (List.range m).map fun j => l.getD j 0#8 ^^^ K j
theorem upTo_len (l : List (BitVec 8)) (K : Nat → BitVec 8) (m : Nat) : (upTo l K m).length = m := by simp [upTo]
theorem upTo_succ (l : List (BitVec 8)) (K : Nat → BitVec 8) (m : Nat) {z : BitVec 8} (h : z = l.getD m 0#8 ^^^ K m) : upTo l K m ++ [z] = upTo l K (m + 1) := by subst h; simp [upTo, List.range_succ]

theorem r_Stream (key nonce l : List (BitVec 8)) (count : BitVec 32) (A : Option Addr) (ca bq q : Nat) (hkey : key.length = 32) (hnonce : nonce.length = 12) (hA : 0 < l.length → A = some ⟨bq, q, none⟩) (hl : l.length ≤ 1000000) :
    Con Try.prog 19 [aggB key, u32V count, aggB nonce, .slice A l.length ca] [bytesRow bq q l] (fun v rs => ∃ A2 b2 c2, (0 < c2 → A2 = some ⟨b2, 0, none⟩) ∧ l.length ≤ c2 ∧ v = .slice A2 l.length c2 ∧ rs = [⟨true, b2, 0, 5, (streamS key count nonce l).map u8V, c2 - l.length⟩]) := by
  refine Con.enter Try.func19 Try.ntmps19 (Nat.le_of_ble_eq_true rfl) rfl fun w => ?_
  refine At.seq ?_
  have hk32 : key.length = 32 := hkey
  refine At.region ?_
  refine At.s (S_box (some 4) 4 (zs := key.map u8V) rfl rfl rfl (fun b4 => ?_))
  refine At.s (S_box (some 6) 6 (zs := nonce.map u8V) rfl rfl rfl (fun b6 => ?_))
  refine At.p (some 8) (P_assign rfl rfl) ?_
  refine At.nil ?_
  refine At.next ?_
  refine At.seq ?_
  refine At.region ?_
  refine At.s (S_buildSlice0 (some 13) 7 rfl Try.underlying31 sz5 (fun b9 => ?_))
  refine At.p (some 9) (P_assign rfl rfl) ?_
  refine At.nil ?_
  refine At.next ?_
  refine At.seq ?_
  refine At.seq ?_
  refine At.region ?_
  refine At.p (some 10) (P_assign rfl rfl) ?_
  refine At.nil ?_
  refine At.next ?_
  refine At.block ?_
  refine At.loopx (I := fun m fr H => ∃ k A9 b9 c9, m = l.length + 64 - k * 64 ∧ fr = frOf [(1, u32V count), (3, .slice A l.length ca), (4, ptr b4 0), (6, ptr b6 0), (9, .slice A9 (min (k * 64) l.length) c9), (10, iV ((k * 64 : Nat) : Int))] ∧ H = hOf [(0, bytesRow bq q l), (4, ⟨true, b4, 0, 22, key.map u8V, 0⟩), (6, ⟨true, b6, 0, 24, nonce.map u8V, 0⟩), (7, ⟨true, b9, 0, 5, (upTo l (keyAt key count nonce) (min (k * 64) l.length)).map u8V, c9 - (min (k * 64) l.length)⟩)] ∧ (0 < c9 → A9 = some ⟨b9, 0, none⟩) ∧ min (k * 64) l.length ≤ c9 ∧ k * 64 < l.length + 64) ?_ ?_
  · intro Kc0 hKc0
    refine At.to [(1, _), (3, _), (4, _), (6, _), (9, .slice (some ⟨b9, 0, none⟩) (min (0 * 64) l.length) 0), (10, iV ((0 * 64 : Nat) : Int))] [(0, _), (4, _), (6, _), (7, ⟨true, b9, 0, 5, (upTo l (keyAt key count nonce) (min (0 * 64) l.length)).map u8V, 0 - (min (0 * 64) l.length)⟩)] (AllL.cons_ (rfl) (AllL.cons_ (rfl) (AllL.cons_ (rfl) (AllL.cons_ (rfl) (AllL.cons_ (by rw [Nat.zero_mul, Nat.zero_min]; rfl) (AllL.cons_ (rfl) trivial)))))) (AllL.cons_ (rfl) (AllL.cons_ (rfl) (AllL.cons_ (rfl) (AllL.cons_ (by rw [Nat.zero_mul, Nat.zero_min]; rfl) trivial)))) ?_
    exact hKc0 _ _ _ ⟨0, some ⟨b9, 0, none⟩, b9, 0, rfl, rfl, rfl, fun _ => rfl, by omega, by omega⟩
  · rintro m fr H ⟨k, A9, b9, c9, rfl, rfl, rfl, hA9, hc9, hk9⟩ Kc0 hKc0
    refine At.seq ?_
    refine At.seq ?_
    refine At.region ?_
    refine At.p (some 14) (P_move rfl rfl) ?_
    refine At.p (some 15) (P_move rfl rfl) ?_
    refine At.p (some 16) (P_len_sl rfl rfl ⟨_, Try.underlying31⟩ rfl) ?_
    refine At.p (some 17) (P_cmp rfl rfl rfl rfl rfl rfl) ?_
    refine At.nil ?_
    refine At.next ?_
    refine At.cond rfl (fun h17 => ?_) (fun h17 => ?_)
    · -- cond 17 t
      have hlt : k * 64 < l.length := by simp at h17; omega
      have hbl := blockS_len key (count + BitVec.ofNat 32 k) nonce
      have hmin0 : min (k * 64) l.length = k * 64 := by omega
      refine At.skip ?_
      refine At.next ?_
      refine At.seq ?_
      refine At.block ?_
      refine At.seq ?_
      refine At.region ?_
      refine At.q (some 20) (Q_loadA (k := 4) rfl rfl Try.underlying22 rfl sz22 (by first | omega | (simp <;> omega)) rfl) ?_
      refine At.p (some 21) (P_move rfl rfl) ?_
      refine At.p (some 22) (P_move rfl rfl) ?_
      refine At.p (some 23) (P_quo_i rfl rfl rfl (by omega) (by omega) (by first | decide | omega)) ?_
      refine At.p (some 24) (P_conv_iwE (b := BitVec.ofNat 32 k) (by rw [show ((k * 64 : Nat) : Int) / 64 = (k : Int) by omega]; exact BitVec.ofInt_natCast _ _) UK.u32 rfl Try.underlying3 Try.underlying23 rfl) ?_
      refine At.p (some 25) (P_add_w UK.u32 rfl rfl rfl) ?_
      refine At.q (some 26) (Q_loadA (k := 6) rfl rfl Try.underlying24 rfl sz24 (by first | omega | (simp <;> omega)) rfl) ?_
      refine At.s (S_callV (some 27) [] [] (vs := [_, _, _]) rfl en17 rfl V0 (by simp) (r_Block key nonce (count + BitVec.ofNat 32 k) hkey hnonce) (by rintro _ _ ⟨rfl, rfl⟩; rfl) ?_)
      rintro _ _ ⟨rfl, rfl⟩
      refine At.s (S_alloc (some 11) 11 (zs := (List.replicate 64 0#8).map u8V) rfl ze26 rfl (fun b11 => ?_))
      refine At.s (S_storeA none (k := 11) (vs := _) rfl rfl rfl (by first | (rw [sz26]; simp <;> omega) | exact sz26) rfl (by first | (intro u hu; obtain ⟨z, _, rfl⟩ := List.mem_map.1 hu; rfl) | simp [Value.oneCell']) (by first | (simp; done) | (intro h; have h2 := congrArg List.length h; simp only [List.length_map, List.length_nil] at h2; omega) | (intro h; cases h)) rfl (by first | omega | (simp <;> omega) | rfl | (simp [*]; done)) ?_)
      refine At.nil ?_
      refine At.next ?_
      refine At.seq ?_
      refine At.region ?_
      refine At.p (some 28) (P_move rfl rfl) ?_
      refine At.p (some 12) (P_assign rfl rfl) ?_
      refine At.nil ?_
      refine At.next ?_
      refine At.block ?_
      refine At.loopx (I := fun m fr H => ∃ e A9 b9 c9, m = l.length + 64 - e ∧ fr = frOf [(1, u32V count), (3, .slice A l.length ca), (4, ptr b4 0), (6, ptr b6 0), (9, .slice A9 e c9), (10, iV ((k * 64 : Nat) : Int)), (11, ptr b11 0), (12, iV (e : Int))] ∧ H = hOf [(0, bytesRow bq q l), (4, ⟨true, b4, 0, 22, key.map u8V, 0⟩), (6, ⟨true, b6, 0, 24, nonce.map u8V, 0⟩), (7, ⟨true, b9, 0, 5, (upTo l (keyAt key count nonce) (e)).map u8V, c9 - (e)⟩), (11, ⟨true, b11, 0, 26, (blockS key (count + BitVec.ofNat 32 k) nonce).map u8V, 0⟩)] ∧ (0 < c9 → A9 = some ⟨b9, 0, none⟩) ∧ e ≤ c9 ∧ k * 64 ≤ e ∧ e ≤ min l.length (k * 64 + 64)) ?_ ?_
      · intro Kc1 hKc1
        refine At.to [(1, _), (3, _), (4, _), (6, _), (9, .slice A9 (k * 64) c9), (10, _), (11, _), (12, iV ((k * 64 : Nat) : Int))] [(0, _), (4, _), (6, _), (7, ⟨true, b9, 0, 5, (upTo l (keyAt key count nonce) (k * 64)).map u8V, c9 - (k * 64)⟩), (11, _)] (AllL.cons_ (rfl) (AllL.cons_ (rfl) (AllL.cons_ (rfl) (AllL.cons_ (rfl) (AllL.cons_ (by show some (Value.slice A9 (min (k * 64) l.length) c9) = _; rw [hmin0]) (AllL.cons_ (rfl) (AllL.cons_ (rfl) (AllL.cons_ (rfl) trivial)))))))) (AllL.cons_ (rfl) (AllL.cons_ (rfl) (AllL.cons_ (rfl) (AllL.cons_ (congrArg (fun z => some (⟨true, b9, 0, 5, (upTo l (keyAt key count nonce) z).map u8V, c9 - z⟩ : Row)) hmin0) (AllL.cons_ (rfl) trivial))))) ?_
        exact hKc1 _ _ _ ⟨k * 64, A9, b9, c9, rfl, rfl, rfl, hA9, by omega, by omega, by omega⟩
      · rintro m fr H ⟨e, A9, b9, c9, rfl, rfl, rfl, hA9, hc9, hm1, hm2⟩ Kc1 hKc1
        refine At.seq ?_
        refine At.seq ?_
        refine At.region ?_
        refine At.p (some 29) (P_move rfl rfl) ?_
        refine At.p (some 30) (P_move rfl rfl) ?_
        refine At.p (some 31) (P_len_sl rfl rfl ⟨_, Try.underlying31⟩ rfl) ?_
        refine At.p (some 32) (P_cmp rfl rfl rfl rfl rfl rfl) ?_
        refine At.p (some 33) (P_move rfl rfl) ?_
        refine At.gsplit (t := 33) (want := true) rfl (fun g1 => ?_) (fun g1 => ?_)
        ·
          refine At.gy (t := 33) rfl g1 rfl rfl ?_
          refine At.p (some 34) (P_move rfl rfl) ?_
          refine At.gy (t := 33) rfl g1 rfl rfl ?_
          refine At.p (some 35) (P_move rfl rfl) ?_
          refine At.gy (t := 33) rfl g1 rfl rfl ?_
          refine At.p (some 36) (P_add_i rfl rfl rfl (by omega)) ?_
          refine At.gy (t := 33) rfl g1 rfl rfl ?_
          refine At.p (some 37) (P_cmp rfl rfl rfl rfl rfl rfl) ?_
          refine At.p (some 38) (P_pick_t rfl rfl g1 rfl) ?_
          refine At.nil ?_
          refine At.next ?_
          refine At.cond rfl (fun h38 => ?_) (fun h38 => ?_)
          · -- cond 38 t
            have hm3 : e < l.length ∧ e < k * 64 + 64 := by simp at *; omega
            refine At.skip ?_
            refine At.next ?_
            refine At.seq ?_
            refine At.block ?_
            refine At.draws 12 [] [.q false [0, 1, 2, 3, 4, 5, 6, 7, 8, 9, 10], .e false 11] (by kernel_rfl) (by kernel_rfl) ?_
            refine At.wp (some 41) (P_move rfl rfl) ?_
            refine At.wp (some 42) (P_move rfl rfl) ?_
            refine At.wp (some 43) (P_move rfl rfl) ?_
            refine At.wp (some 44) (P_indexAddr_sl1 rfl Try.underlying31 sz5 rfl (hA (by omega)) rfl rfl (by omega)) ?_
            refine At.wq (some 45) (Q_loadR (l := l) (k := 0) (j := e) (0#8) rfl rfl Try.underlying5 rfl rfl rfl (by omega)) ?_
            refine At.wp (some 46) (P_move rfl rfl) ?_
            refine At.wp (some 47) (P_move rfl rfl) ?_
            refine At.wp (some 48) (P_sub_i rfl rfl rfl (by omega)) ?_
            refine At.wp (some 49) (P_indexAddr_arr1 (j := e - k * 64) rfl Try.underlying26 sz5 rfl rfl (by omega) (by omega)) ?_
            refine At.wq (some 50) (Q_loadM (k := 11) (0#8) rfl rfl Try.underlying5 rfl rfl (by first | omega | (simp <;> omega))) ?_
            refine At.wp (some 51) (P_xor_w UK.u8 rfl rfl rfl) ?_
            refine At.wqn ?_
            refine At.we ?_
            refine S_buildSliceV (some 52) 12 [_] rfl Try.underlying31 sz5 ze5 rfl rfl (by decide) (by decide) rfl rfl (fun b12 => ?_)
            refine At.wt rfl ?_
            refine At.s (S_appendM (some 53) 7 (upTo l (keyAt key count nonce) (e + 1)) (f := u8V) (l := upTo l (keyAt key count nonce) e) (L := [l.getD e 0#8 ^^^ (blockS key (count + BitVec.ofNat 32 k) nonce).getD (e - k * 64) 0#8]) rfl Try.underlying31 Try.underlying31 (.inr ⟨_, rfl⟩) sz5 by5 ze5 rfl rfl (fun h => ⟨hA9 h, rfl⟩) (upTo_len _ _ _) (by omega) (Src.row (k := 12) (j := 0) rfl (fun _ => rfl) (fun _ => ⟨rfl, rfl, rfl⟩) rfl rfl) (fun _ => rfl) (by omega) (by omega) (upTo_succ l _ e (by rw [← keyAt_chunk key count nonce (show e - k * 64 < 64 by omega), show k * 64 + (e - k * 64) = e by omega])) rfl ?_)
            intro A9' b9' c9' g1 g2
            refine At.p (some 9) (P_assign rfl rfl) ?_
            refine At.nil ?_
            refine At.inb_n ?_
            refine At.next ?_
            refine At.region ?_
            refine At.p (some 39) (P_move rfl rfl) ?_
            refine At.p (some 40) (P_add_i rfl rfl rfl (by omega)) ?_
            refine At.p (some 12) (P_assign rfl rfl) ?_
            refine At.nil ?_
            refine At.next ?_
            refine At.to [(1, _), (3, _), (4, _), (6, _), (9, .slice A9' (e + 1) c9'), (10, _), (11, _), (12, iV ((e + 1 : Nat) : Int))] [(0, _), (4, _), (6, _), (7, ⟨true, b9', 0, 5, (upTo l (keyAt key count nonce) (e + 1)).map u8V, c9' - (e + 1)⟩), (11, _)] (AllL.cons_ (rfl) (AllL.cons_ (rfl) (AllL.cons_ (rfl) (AllL.cons_ (rfl) (AllL.cons_ (congrArg (fun z => some (Value.slice A9' z c9')) (upTo_len l (keyAt key count nonce) (e + 1))) (AllL.cons_ (rfl) (AllL.cons_ (rfl) (AllL.cons_ (rfl) trivial)))))))) (AllL.cons_ (rfl) (AllL.cons_ (rfl) (AllL.cons_ (rfl) (AllL.cons_ (congrArg (fun z => some (⟨true, b9', 0, 5, (upTo l (keyAt key count nonce) (e + 1)).map u8V, c9' - z⟩ : Row)) (upTo_len l (keyAt key count nonce) (e + 1))) (AllL.cons_ (rfl) trivial))))) ?_
            exact hKc1 _ _ _ (by omega) ⟨e + 1, A9', b9', c9', rfl, rfl, rfl, g1, by rw [upTo_len] at g2; exact g2, by omega, by omega⟩
          · -- cond 38 f
            have hm : e = min ((k + 1) * 64) l.length := by simp at *; omega
            refine At.exit ?_
            refine At.thn_e ?_
            refine At.thn_e ?_
            refine At.inb_hit ?_
            refine At.inb_n ?_
            refine At.next ?_
            refine At.region ?_
            refine At.p (some 18) (P_move rfl rfl) ?_
            refine At.p (some 19) (P_add_i rfl rfl rfl (by omega)) ?_
            refine At.p (some 10) (P_assign rfl rfl) ?_
            refine At.nil ?_
            refine At.next ?_
            refine At.to [(1, _), (3, _), (4, _), (6, _), (9, .slice A9 (min ((k + 1) * 64) l.length) c9), (10, iV (((k + 1) * 64 : Nat) : Int))] [(0, _), (4, _), (6, _), (7, ⟨true, b9, 0, 5, (upTo l (keyAt key count nonce) (min ((k + 1) * 64) l.length)).map u8V, c9 - (min ((k + 1) * 64) l.length)⟩)] (AllL.cons_ (rfl) (AllL.cons_ (rfl) (AllL.cons_ (rfl) (AllL.cons_ (rfl) (AllL.cons_ (congrArg (fun z => some (Value.slice A9 z c9)) hm) (AllL.cons_ (by rw [show (((k + 1) * 64 : Nat) : Int) = ((k * 64 : Nat) : Int) + 64 by omega]; rfl) trivial)))))) (AllL.cons_ (rfl) (AllL.cons_ (rfl) (AllL.cons_ (rfl) (AllL.cons_ (congrArg (fun z => some (⟨true, b9, 0, 5, (upTo l (keyAt key count nonce) z).map u8V, c9 - z⟩ : Row)) hm) trivial)))) ?_
            exact hKc0 _ _ _ (by omega) ⟨k + 1, A9, b9, c9, rfl, rfl, rfl, hA9, by omega, by omega⟩
        ·
          refine At.gn (some 34) (t := 33) rfl g1 rfl rfl ?_
          refine At.gn (some 35) (t := 33) rfl g1 rfl rfl ?_
          refine At.gn (some 36) (t := 33) rfl g1 rfl rfl ?_
          refine At.gn (some 37) (t := 33) rfl g1 rfl rfl ?_
          refine At.p (some 38) (P_pick_f rfl rfl g1 rfl) ?_
          refine At.nil ?_
          refine At.next ?_
          refine At.cond rfl (fun h => absurd (h.symm.trans rfl) (by decide)) (fun _ => ?_)
          have hm : e = min ((k + 1) * 64) l.length := by simp at *; omega
          refine At.exit ?_
          refine At.thn_e ?_
          refine At.thn_e ?_
          refine At.inb_hit ?_
          refine At.inb_n ?_
          refine At.next ?_
          refine At.region ?_
          refine At.p (some 18) (P_move rfl rfl) ?_
          refine At.p (some 19) (P_add_i rfl rfl rfl (by omega)) ?_
          refine At.p (some 10) (P_assign rfl rfl) ?_
          refine At.nil ?_
          refine At.next ?_
          refine At.to [(1, _), (3, _), (4, _), (6, _), (9, .slice A9 (min ((k + 1) * 64) l.length) c9), (10, iV (((k + 1) * 64 : Nat) : Int))] [(0, _), (4, _), (6, _), (7, ⟨true, b9, 0, 5, (upTo l (keyAt key count nonce) (min ((k + 1) * 64) l.length)).map u8V, c9 - (min ((k + 1) * 64) l.length)⟩)] (AllL.cons_ (rfl) (AllL.cons_ (rfl) (AllL.cons_ (rfl) (AllL.cons_ (rfl) (AllL.cons_ (congrArg (fun z => some (Value.slice A9 z c9)) hm) (AllL.cons_ (by rw [show (((k + 1) * 64 : Nat) : Int) = ((k * 64 : Nat) : Int) + 64 by omega]; rfl) trivial)))))) (AllL.cons_ (rfl) (AllL.cons_ (rfl) (AllL.cons_ (rfl) (AllL.cons_ (congrArg (fun z => some (⟨true, b9, 0, 5, (upTo l (keyAt key count nonce) z).map u8V, c9 - z⟩ : Row)) hm) trivial)))) ?_
          exact hKc0 _ _ _ (by omega) ⟨k + 1, A9, b9, c9, rfl, rfl, rfl, hA9, by omega, by omega⟩
    · -- cond 17 f
      have hge : l.length ≤ k * 64 := by simp at h17; omega
      have hmin : min (k * 64) l.length = l.length := by omega
      rw [hmin, show upTo l (keyAt key count nonce) l.length = streamS key count nonce l from rfl]
      rw [hmin] at hc9
      refine At.exit ?_
      refine At.thn_e ?_
      refine At.thn_e ?_
      refine At.inb_hit ?_
      refine At.next ?_
      refine At.seq ?_
      refine At.region ?_
      refine At.p (some 54) (P_move rfl rfl) ?_
      refine At.p (some 8) (P_assign rfl rfl) ?_
      refine At.nil ?_
      refine At.next ?_
      refine At.ret ?_
      refine At.give (.inl rfl) [7] (rows' := [_]) (vs := [_]) rfl ⟨rfl, trivial⟩ rfl (by simp) (by simp) ⟨A9, b9, c9, hA9, hc9, rfl, rfl⟩
end Go.Proofs.Ytkdkpjnlknofeaa
