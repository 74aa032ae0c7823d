import Derived.Test.YtihciioopdalnaaTK2
namespace Go.Proofs.Ytihciioopdalnaa
set_option maxRecDepth 20000
set_option linter.unusedVariables false
set_option linter.unusedSimpArgs false
open Go.SE Go.RowKit
attribute [local irreducible] macS sumS
attribute [local irreducible] tkT rightT risB lastId
set_option maxHeartbeats 2000000 in
theorem c_Mint {key : List (BitVec 8)} {next : Int} {L : List Ent} {A : Option Addr} {n c b q : Nat} {psk : List (BitVec 8)} (hkey : key.length = 32) (hL : L.length = n) (hA : 0 < n → A = some ⟨b, q, none⟩) (hc : n ≤ c) (hpsk : psk.length = 32) :
  Con Try.prog 26 [.agg ([(key).map u8V, [iV next, .slice A n c]].flatten).toArray, aggK psk] [⟨false, b, q, 0, encs EntE L, 0⟩] (fun v rs => ∃ (A' : Option Addr) (b' c' : Nat), (0 < c' → A' = some ⟨b', 0, none⟩) ∧ (miL next L psk).length ≤ c' ∧ v = .tuple #[.agg ([(miK key next L).map u8V, [iV (miN next L), .slice A' (miL next L psk).length c']].flatten).toArray, iV (miI next L), iV (miE next L)] ∧ rs = [⟨true, b', 0, 96, encs EntE (miL next L psk), (c' - (miL next L psk).length) * 33⟩]) := by
 refine Con.enter Try.func26 Try.ntmps26 (Nat.le_of_ble_eq_true rfl) rfl fun w => ?_
 refine At.seq ?_
 refine At.region ?_
 refine At.s (S_box (some 2) 2 (zs := [(key).map u8V, [iV next, .slice A n c]].flatten) rfl rfl rfl (fun b2 => ?_))
 refine At.s (S_box (some 3) 3 (zs := (psk).map u8V) rfl rfl rfl (fun b3 => ?_))
 refine At.s (S_alloc (some 4) 4 (zs := [(List.replicate 32 0#8).map u8V, [iV 0, .slice none 0 0]].flatten) rfl ze40 rfl (fun b4 => ?_))
 refine At.p (some 5) (P_assign rfl rfl) ?_
 refine At.p (some 6) (P_assign rfl rfl) ?_
 refine At.nil ?_
 refine At.next ?_
 refine At.seq ?_
 refine At.block ?_
 refine At.seq ?_
 refine At.region ?_
 refine At.q (some 9) (Q_loadA (k := 2) rfl rfl Try.underlying40 rfl sz40 LN rfl) ?_
 refine At.s (S_callV (some 10) [(0, _)] [] (vs := [_]) rfl en32 rfl (VN (by simp) rfl View.all V0) (by simp) (c_TRight (key := key) (next := next) (L := L) (A := A) (n := n) (c := c) (b := b) (q := q) LN LN hA OG) (by rintro _ _ ⟨rfl, rfl⟩; rfl) ?_)
 rintro _ _ ⟨rfl, rfl⟩
 refine At.p (some 11) (P_not rfl rfl) ?_
 refine At.p (some 8) (P_assign rfl rfl) ?_
 refine At.nil ?_
 refine At.next ?_
 refine At.cond rfl (fun h8 => ?_) (fun h8 => ?_)
 · -- cond 8 t
  have e8 : rightT next L = false := (by first | (simp; done) | simpa using h8)
  refine At.seq ?_
  refine At.region ?_
  refine At.p (some 12) (P_build_struct (cs := ([(List.replicate 32 0#8).map u8V, [iV 0, .slice none 0 0]].flatten).toArray) (parts := _) (vs := []) rfl Try.underlying40 ze40 pl40 rfl (by show Instr.fill _ ([(List.replicate 32 0#8).map u8V, [iV 0], [.slice none 0 0]].flatten).toArray _ = _; exact fill_end (by simp))) ?_
  refine At.s (S_storeA none (k := 4) (vs := [(List.replicate 32 0#8).map u8V, [iV 0, .slice none 0 0]].flatten) rfl rfl rfl (by rw [sz40]; exact congrArg some LN) rfl (one_flatc (one_map (fun _ => rfl)) (one_flatc (one_cons rfl (one_cons rfl one_nil)) one_flat0)) NG rfl LN ?_)
  refine At.p (some 5) (P_assign rfl rfl) ?_
  refine At.p (some 6) (P_assign rfl rfl) ?_
  refine At.nil ?_
  refine At.next ?_
  refine At.ret ?_
  refine At.inb_r ?_
  refine At.thn_r ?_
  obtain ⟨z1, z2, z3, z4⟩ := mi_f key psk (L := L) (nx := next) (fun h => by rw [h.1] at e8; cases e8)
  have z5 := miE_1 e8
  refine At.empty 990 0 96 ?_
  refine At.giveV (.inl rfl) [990] (rows' := [_]) (ResV.three rfl (ResOne.cellA (k := 4) rfl Try.underlying40 rfl sz40 LN rfl) (ResOne.tmp rfl) (ResOne.tmp rfl)) rfl (by simp) (by simp) ?_
  exact ⟨none, 0, 0, (fun h => absurd h (Nat.lt_irrefl 0)), (by simp only [z1, z2, z3, z4, z5]; exact Nat.le_refl _), (by first | (rw [z1, z2, z3, z4, z5]; try rfl; done) | (rw [← z1, ← z2, ← z3, ← z4, ← z5]; try rfl; done) | (simp only [z1, z2, z3, z4, z5]; try rfl; done) | (simp only [← z1, ← z2, ← z3, ← z4, ← z5]; try rfl; done) | rfl), (by first | (rw [z1, z2, z3, z4, z5]; try rfl; done) | (rw [← z1, ← z2, ← z3, ← z4, ← z5]; try rfl; done) | (simp only [z1, z2, z3, z4, z5]; try rfl; done) | (simp only [← z1, ← z2, ← z3, ← z4, ← z5]; try rfl; done) | rfl)⟩
 · -- cond 8 f
  have e8 : rightT next L = true := (by first | (simp; done) | simpa using h8)
  refine At.seq ?_
  refine At.region ?_
  refine At.p (some 14) (P_fieldAddr0 (off := 32) rfl Try.underlying40 rfl sz3 rfl rfl) ?_
  refine At.q (some 15) (Q_loadO (k := 2) rfl rfl Try.underlying3 rfl rfl (seg_get (i := 1) (p := 0) rfl LN rfl)) ?_
  refine At.p (some 16) (P_cmp rfl rfl rfl rfl rfl rfl) ?_
  refine At.p (some 13) (P_assign rfl rfl) ?_
  refine At.nil ?_
  refine At.next ?_
  refine At.cond rfl (fun h13 => ?_) (fun h13 => ?_)
  · -- cond 13 t
   have e13 : next = 2147483647 := eq_of_beq h13
   refine At.seq ?_
   refine At.region ?_
   refine At.p (some 17) (P_build_struct (cs := ([(List.replicate 32 0#8).map u8V, [iV 0, .slice none 0 0]].flatten).toArray) (parts := _) (vs := []) rfl Try.underlying40 ze40 pl40 rfl (by show Instr.fill _ ([(List.replicate 32 0#8).map u8V, [iV 0], [.slice none 0 0]].flatten).toArray _ = _; exact fill_end (by simp))) ?_
   refine At.s (S_storeA none (k := 4) (vs := [(List.replicate 32 0#8).map u8V, [iV 0, .slice none 0 0]].flatten) rfl rfl rfl (by rw [sz40]; exact congrArg some LN) rfl (one_flatc (one_map (fun _ => rfl)) (one_flatc (one_cons rfl (one_cons rfl one_nil)) one_flat0)) NG rfl LN ?_)
   refine At.p (some 5) (P_assign rfl rfl) ?_
   refine At.p (some 6) (P_assign rfl rfl) ?_
   refine At.nil ?_
   refine At.next ?_
   refine At.ret ?_
   refine At.inb_r ?_
   refine At.thn_r ?_
   obtain ⟨z1, z2, z3, z4⟩ := mi_f key psk (L := L) (nx := next) (fun h => h.2 e13)
   have z5 := miE_5 e8 e13
   refine At.empty 990 0 96 ?_
   refine At.giveV (.inl rfl) [990] (rows' := [_]) (ResV.three rfl (ResOne.cellA (k := 4) rfl Try.underlying40 rfl sz40 LN rfl) (ResOne.tmp rfl) (ResOne.tmp rfl)) rfl (by simp) (by simp) ?_
   exact ⟨none, 0, 0, (fun h => absurd h (Nat.lt_irrefl 0)), (by simp only [z1, z2, z3, z4, z5]; exact Nat.le_refl _), (by first | (rw [z1, z2, z3, z4, z5]; try rfl; done) | (rw [← z1, ← z2, ← z3, ← z4, ← z5]; try rfl; done) | (simp only [z1, z2, z3, z4, z5]; try rfl; done) | (simp only [← z1, ← z2, ← z3, ← z4, ← z5]; try rfl; done) | rfl), (by first | (rw [z1, z2, z3, z4, z5]; try rfl; done) | (rw [← z1, ← z2, ← z3, ← z4, ← z5]; try rfl; done) | (simp only [z1, z2, z3, z4, z5]; try rfl; done) | (simp only [← z1, ← z2, ← z3, ← z4, ← z5]; try rfl; done) | rfl)⟩
  · -- cond 13 f
   have e13 : next ≠ 2147483647 := beq_eq_false_iff_ne.1 h13
   refine At.skip ?_
   refine At.inb_n ?_
   refine At.next ?_
   refine At.seq ?_
   have hr8 := rt_t e8
   refine At.bBruteG [13, 16] (fun fr H => ∃ (A25 : Option Addr) (b25 c25 : Nat) (b30 : Nat) (A31 : Option Addr) (b31 c31 : Nat) (b7 : Nat), fr = frOf [(2, ptr b2 0), (4, ptr b4 0), (5, iV 0), (6, iV 0), (7, ptr b7 0)] ∧ H = hOf [(0, ⟨false, b, q, 0, encs EntE L, 0⟩), (2, ⟨true, b2, 0, 40, [(key).map u8V, [iV next, .slice A n c]].flatten, 0⟩), (4, ⟨true, b4, 0, 40, [(List.replicate 32 0#8).map u8V, [iV 0, .slice none 0 0]].flatten, 0⟩), (7, ⟨true, b7, 0, 40, [(key).map u8V, [iV (next + 1), .slice A31 ((L ++ [mkEnt next psk]).length) c31]].flatten, 0⟩), (25, ⟨true, b31, 0, 96, encs EntE (L ++ [mkEnt next psk]), (c31 - ((L ++ [mkEnt next psk])).length) * 33⟩)] ∧ (0 < c25 → A25 = some ⟨b25, 0, none⟩) ∧ (L.length ≤ c25) ∧ (0 < c31 → A31 = some ⟨b31, 0, none⟩) ∧ ((L ++ [mkEnt next psk]).length ≤ c31) ∧ True) (by kernel_rfl) ?_ ?_
   ·
    intro Kb hKb G hGi hGo
    have hG5_0 (A25 : Option Addr) (b25 c25 : Nat) (b30 : Nat) (A31 : Option Addr) (b31 c31 : Nat) (b7 : Nat) (g25a : 0 < c25 → A25 = some ⟨b25, 0, none⟩) (g25b : L.length ≤ c25) (g31a : 0 < c31 → A31 = some ⟨b31, 0, none⟩) (g31b : (L ++ [mkEnt next psk]).length ≤ c31) : G 0 #[true, true, true, true, true, true, true, true, true, true, true, true, true, true, true, true, true] (frOf [(2, ptr b2 0), (4, ptr b4 0), (5, iV 0), (6, iV 0), (7, ptr b7 0)]) (hOf [(0, ⟨false, b, q, 0, encs EntE L, 0⟩), (2, ⟨true, b2, 0, 40, [(key).map u8V, [iV next, .slice A n c]].flatten, 0⟩), (4, ⟨true, b4, 0, 40, [(List.replicate 32 0#8).map u8V, [iV 0, .slice none 0 0]].flatten, 0⟩), (7, ⟨true, b7, 0, 40, [(key).map u8V, [iV (next + 1), .slice A31 ((L ++ [mkEnt next psk]).length) c31]].flatten, 0⟩), (25, ⟨true, b31, 0, 96, encs EntE (L ++ [mkEnt next psk]), (c31 - ((L ++ [mkEnt next psk])).length) * 33⟩)]) := by
     refine hGo ?_
     refine At.bEnd (by kernel_rfl) ?_
     refine At.next ?_
     exact hKb _ _ ⟨A25, b25, c25, b30, A31, b31, c31, b7, rfl, rfl, g25a, g25b, g31a, g31b, trivial⟩
    have hG5_1 (A25 : Option Addr) (b25 c25 : Nat) (b30 : Nat) (A31 : Option Addr) (b31 c31 : Nat) (b7 : Nat) (g25a : 0 < c25 → A25 = some ⟨b25, 0, none⟩) (g25b : L.length ≤ c25) (g31a : 0 < c31 → A31 = some ⟨b31, 0, none⟩) (g31b : (L ++ [mkEnt next psk]).length ≤ c31) : G 1 #[true, true, true, true, true, true, true, true, true, true, true, true, true, true, true, true, false] (frOf [(2, ptr b2 0), (4, ptr b4 0), (5, iV 0), (6, iV 0), (7, ptr b7 0), (32, .agg ([(key).map u8V, [iV (next + 1), .slice A31 ((L ++ [mkEnt next psk]).length) c31]].flatten).toArray)]) (hOf [(0, ⟨false, b, q, 0, encs EntE L, 0⟩), (2, ⟨true, b2, 0, 40, [(key).map u8V, [iV next, .slice A n c]].flatten, 0⟩), (4, ⟨true, b4, 0, 40, [(List.replicate 32 0#8).map u8V, [iV 0, .slice none 0 0]].flatten, 0⟩), (7, ⟨true, b7, 0, 40, [(List.replicate 32 0#8).map u8V, [iV 0, .slice none 0 0]].flatten, 0⟩), (25, ⟨true, b31, 0, 96, encs EntE (L ++ [mkEnt next psk]), (c31 - ((L ++ [mkEnt next psk])).length) * 33⟩)]) := by
     refine hGo ?_
     refine At.bStep [16] (by kernel_rfl) (by simp) ?_
     refine At.bS true (by kernel_rfl) (S_storeA none (k := 7) (vs := [(key).map u8V, [iV (next + 1), .slice A31 ((L ++ [mkEnt next psk]).length) c31]].flatten) rfl rfl rfl (by rw [sz40]; exact congrArg some LN) rfl (one_flatc (one_map (fun _ => rfl)) (one_flatc (one_cons rfl (one_cons rfl one_nil)) one_flat0)) NG rfl LN ?_)
     exact At.into (hGi (hG5_0 A25 b25 c25 b30 A31 b31 c31 b7 g25a g25b g31a g31b)) rfl rfl
    have hG5_2 (A25 : Option Addr) (b25 c25 : Nat) (b30 : Nat) (A31 : Option Addr) (b31 c31 : Nat) (g25a : 0 < c25 → A25 = some ⟨b25, 0, none⟩) (g25b : L.length ≤ c25) (g31a : 0 < c31 → A31 = some ⟨b31, 0, none⟩) (g31b : (L ++ [mkEnt next psk]).length ≤ c31) : G 2 #[true, true, true, true, true, true, true, true, true, true, true, true, true, true, true, false, false] (frOf [(2, ptr b2 0), (4, ptr b4 0), (5, iV 0), (6, iV 0), (32, .agg ([(key).map u8V, [iV (next + 1), .slice A31 ((L ++ [mkEnt next psk]).length) c31]].flatten).toArray)]) (hOf [(0, ⟨false, b, q, 0, encs EntE L, 0⟩), (2, ⟨true, b2, 0, 40, [(key).map u8V, [iV next, .slice A n c]].flatten, 0⟩), (4, ⟨true, b4, 0, 40, [(List.replicate 32 0#8).map u8V, [iV 0, .slice none 0 0]].flatten, 0⟩), (25, ⟨true, b31, 0, 96, encs EntE (L ++ [mkEnt next psk]), (c31 - ((L ++ [mkEnt next psk])).length) * 33⟩)]) := by
     clear hG5_0
     refine hGo ?_
     refine At.bStep [15] (by kernel_rfl) (by simp) ?_
     refine At.bS false (by kernel_rfl) (S_alloc (some 7) 7 (zs := [(List.replicate 32 0#8).map u8V, [iV 0, .slice none 0 0]].flatten) rfl ze40 rfl (fun b7 => ?_))
     exact At.into (hGi (hG5_1 A25 b25 c25 b30 A31 b31 c31 b7 g25a g25b g31a g31b)) rfl rfl
    have hG5_3 (A25 : Option Addr) (b25 c25 : Nat) (b30 : Nat) (b7 : Nat) (g25a : 0 < c25 → A25 = some ⟨b25, 0, none⟩) (g25b : L.length ≤ c25) : G 3 #[true, true, true, true, true, true, true, true, true, true, true, true, true, false, false, true, false] (frOf [(2, ptr b2 0), (4, ptr b4 0), (5, iV 0), (6, iV 0), (7, ptr b7 0), (19, aggK key), (22, iV (next + 1)), (25, .slice A25 L.length c25), (30, .slice (some ⟨b30, 0, none⟩) 1 1)]) (hOf [(0, ⟨false, b, q, 0, encs EntE L, 0⟩), (2, ⟨true, b2, 0, 40, [(key).map u8V, [iV next, .slice A n c]].flatten, 0⟩), (4, ⟨true, b4, 0, 40, [(List.replicate 32 0#8).map u8V, [iV 0, .slice none 0 0]].flatten, 0⟩), (7, ⟨true, b7, 0, 40, [(List.replicate 32 0#8).map u8V, [iV 0, .slice none 0 0]].flatten, 0⟩), (25, ⟨true, b25, 0, 96, encs EntE L, (c25 - (L).length) * 33⟩), (30, ⟨true, b30, 0, 96, encs EntE [mkEnt next psk], 0⟩)]) := by
     clear hG5_0 hG5_2
     refine hGo ?_
     refine At.bStep [13] (by kernel_rfl) (by simp) ?_
     refine At.bS true (by kernel_rfl) (S_appendE (en := EntE) (some 31) 25 ((L ++ [mkEnt next psk])) (l := L) (L := [mkEnt next psk]) (m := 1) (sz := 33) rfl rfl Try.underlying38 Try.underlying38 (.inr ⟨_, rfl⟩) sz96 by96 ze96 rfl rfl (fun h => ⟨g25a h, rfl⟩) LN OG OG (SrcE.all (en := EntE) (k := 30) (L := [mkEnt next psk]) rfl rfl (fun _ => rfl) (fun _ => ⟨rfl, rfl, rfl⟩) LN) OG OG rfl LN ?_)
     intro A31 b31 c31 g31a g31b
     refine At.bP  14 (some 32) (P_build_struct (cs := ([(key).map u8V, [iV (next + 1), .slice A31 ((L ++ [mkEnt next psk]).length) c31]].flatten).toArray) (parts := _) (vs := [(0, _), (1, _), (2, _)]) rfl Try.underlying40 ze40 pl40 rfl (by show Instr.fill _ ([(List.replicate 32 0#8).map u8V, [iV 0], [.slice none 0 0]].flatten).toArray _ = _; refine fill_seg (k := 0) (vs := (key).map u8V) rfl rfl LN rfl LN LN ?_; refine fill_seg (k := 1) (vs := [iV (next + 1)]) rfl rfl LN rfl LN LN ?_; refine fill_seg (k := 2) (vs := [.slice A31 ((L ++ [mkEnt next psk]).length) c31]) rfl rfl LN rfl LN LN ?_; exact fill_end (by simp))) (by kernel_rfl) (by kernel_rfl) ?_
     exact At.into (hGi (hG5_1 A25 b25 c25 b30 A31 b31 c31 b7 g25a g25b g31a g31b)) rfl rfl
    have hG5_4 (A25 : Option Addr) (b25 c25 : Nat) (b30 : Nat) (g25a : 0 < c25 → A25 = some ⟨b25, 0, none⟩) (g25b : L.length ≤ c25) : G 4 #[true, true, true, true, true, true, true, true, true, true, true, true, true, false, false, false, false] (frOf [(2, ptr b2 0), (4, ptr b4 0), (5, iV 0), (6, iV 0), (19, aggK key), (22, iV (next + 1)), (25, .slice A25 L.length c25), (30, .slice (some ⟨b30, 0, none⟩) 1 1)]) (hOf [(0, ⟨false, b, q, 0, encs EntE L, 0⟩), (2, ⟨true, b2, 0, 40, [(key).map u8V, [iV next, .slice A n c]].flatten, 0⟩), (4, ⟨true, b4, 0, 40, [(List.replicate 32 0#8).map u8V, [iV 0, .slice none 0 0]].flatten, 0⟩), (25, ⟨true, b25, 0, 96, encs EntE L, (c25 - (L).length) * 33⟩), (30, ⟨true, b30, 0, 96, encs EntE [mkEnt next psk], 0⟩)]) := by
     clear hG5_0 hG5_1
     refine hGo ?_
     refine At.bStep [13, 15] (by kernel_rfl) (by simp) ?_
     refine ⟨?_, ?_⟩
     ·
      refine At.bS true (by kernel_rfl) (S_appendE (en := EntE) (some 31) 25 ((L ++ [mkEnt next psk])) (l := L) (L := [mkEnt next psk]) (m := 1) (sz := 33) rfl rfl Try.underlying38 Try.underlying38 (.inr ⟨_, rfl⟩) sz96 by96 ze96 rfl rfl (fun h => ⟨g25a h, rfl⟩) LN OG OG (SrcE.all (en := EntE) (k := 30) (L := [mkEnt next psk]) rfl rfl (fun _ => rfl) (fun _ => ⟨rfl, rfl, rfl⟩) LN) OG OG rfl LN ?_)
      intro A31 b31 c31 g31a g31b
      refine At.bP  14 (some 32) (P_build_struct (cs := ([(key).map u8V, [iV (next + 1), .slice A31 ((L ++ [mkEnt next psk]).length) c31]].flatten).toArray) (parts := _) (vs := [(0, _), (1, _), (2, _)]) rfl Try.underlying40 ze40 pl40 rfl (by show Instr.fill _ ([(List.replicate 32 0#8).map u8V, [iV 0], [.slice none 0 0]].flatten).toArray _ = _; refine fill_seg (k := 0) (vs := (key).map u8V) rfl rfl LN rfl LN LN ?_; refine fill_seg (k := 1) (vs := [iV (next + 1)]) rfl rfl LN rfl LN LN ?_; refine fill_seg (k := 2) (vs := [.slice A31 ((L ++ [mkEnt next psk]).length) c31]) rfl rfl LN rfl LN LN ?_; exact fill_end (by simp))) (by kernel_rfl) (by kernel_rfl) ?_
      exact At.into (hGi (hG5_2 A25 b25 c25 b30 A31 b31 c31 g25a g25b g31a g31b)) rfl rfl
     ·
      refine At.bS false (by kernel_rfl) (S_alloc (some 7) 7 (zs := [(List.replicate 32 0#8).map u8V, [iV 0, .slice none 0 0]].flatten) rfl ze40 rfl (fun b7 => ?_))
      exact At.into (hGi (hG5_3 A25 b25 c25 b30 b7 g25a g25b)) rfl rfl
    have hG5_5 (A25 : Option Addr) (b25 c25 : Nat) (b7 : Nat) (g25a : 0 < c25 → A25 = some ⟨b25, 0, none⟩) (g25b : L.length ≤ c25) : G 4 #[true, true, true, true, true, true, true, true, true, true, true, true, false, false, false, true, false] (frOf [(2, ptr b2 0), (4, ptr b4 0), (5, iV 0), (6, iV 0), (7, ptr b7 0), (19, aggK key), (22, iV (next + 1)), (25, .slice A25 L.length c25), (29, .agg ([[iV next], (psk).map u8V].flatten).toArray)]) (hOf [(0, ⟨false, b, q, 0, encs EntE L, 0⟩), (2, ⟨true, b2, 0, 40, [(key).map u8V, [iV next, .slice A n c]].flatten, 0⟩), (4, ⟨true, b4, 0, 40, [(List.replicate 32 0#8).map u8V, [iV 0, .slice none 0 0]].flatten, 0⟩), (7, ⟨true, b7, 0, 40, [(List.replicate 32 0#8).map u8V, [iV 0, .slice none 0 0]].flatten, 0⟩), (25, ⟨true, b25, 0, 96, encs EntE L, (c25 - (L).length) * 33⟩)]) := by
     clear hG5_0 hG5_1 hG5_2 hG5_4
     refine hGo ?_
     refine At.bStep [12] (by kernel_rfl) (by simp) ?_
     refine At.bS false (by kernel_rfl) (S_buildSliceE (some 30) 30 (cs := [[iV next], (psk).map u8V].flatten) rfl Try.underlying38 sz96 ze96 rfl rfl LN (by decide) (by decide) (fun b30 => ?_))
     refine At.row 30 (⟨true, b30, 0, 96, encs EntE [mkEnt next psk], 0⟩) rfl (ent_row LN) ?_
     exact At.into (hGi (hG5_3 A25 b25 c25 b30 b7 g25a g25b)) rfl rfl
    have hG5_6 (b30 : Nat) (b7 : Nat) : G 4 #[true, true, true, true, true, true, true, false, true, true, true, true, true, false, false, true, false] (frOf [(2, ptr b2 0), (4, ptr b4 0), (5, iV 0), (6, iV 0), (7, ptr b7 0), (19, aggK key), (22, iV (next + 1)), (24, .slice A n c), (30, .slice (some ⟨b30, 0, none⟩) 1 1)]) (hOf [(0, ⟨false, b, q, 0, encs EntE L, 0⟩), (2, ⟨true, b2, 0, 40, [(key).map u8V, [iV next, .slice A n c]].flatten, 0⟩), (4, ⟨true, b4, 0, 40, [(List.replicate 32 0#8).map u8V, [iV 0, .slice none 0 0]].flatten, 0⟩), (7, ⟨true, b7, 0, 40, [(List.replicate 32 0#8).map u8V, [iV 0, .slice none 0 0]].flatten, 0⟩), (30, ⟨true, b30, 0, 96, encs EntE [mkEnt next psk], 0⟩)]) := by
     clear hG5_0 hG5_1 hG5_2 hG5_4 hG5_5
     refine hGo ?_
     refine At.bStep [7] (by kernel_rfl) (by simp) ?_
     refine At.bS false (by kernel_rfl) (S_callV (some 25) [(0, _)] [25] (vs := [_]) rfl en58 rfl (VN (by simp) rfl View.all V0) (by simp) (c_CloneEn (L := L) (A := A) (n := n) (c := c) (b := b) (q := q) LN hA OG) (by rintro _ _ ⟨A25, b25, c25, g25a, g25b, rfl, rfl⟩; rfl) ?_)
     rintro _ _ ⟨A25, b25, c25, g25a, g25b, rfl, rfl⟩
     exact At.into (hGi (hG5_3 A25 b25 c25 b30 b7 g25a g25b)) rfl rfl
    have hG5_7 (A25 : Option Addr) (b25 c25 : Nat) (b30 : Nat) (b7 : Nat) (g25a : 0 < c25 → A25 = some ⟨b25, 0, none⟩) (g25b : L.length ≤ c25) : G 4 #[true, false, true, true, true, true, true, true, true, true, true, true, true, false, false, true, false] (frOf [(2, ptr b2 0), (4, ptr b4 0), (5, iV 0), (6, iV 0), (7, ptr b7 0), (18, ptr b2 0), (22, iV (next + 1)), (25, .slice A25 L.length c25), (30, .slice (some ⟨b30, 0, none⟩) 1 1)]) (hOf [(0, ⟨false, b, q, 0, encs EntE L, 0⟩), (2, ⟨true, b2, 0, 40, [(key).map u8V, [iV next, .slice A n c]].flatten, 0⟩), (4, ⟨true, b4, 0, 40, [(List.replicate 32 0#8).map u8V, [iV 0, .slice none 0 0]].flatten, 0⟩), (7, ⟨true, b7, 0, 40, [(List.replicate 32 0#8).map u8V, [iV 0, .slice none 0 0]].flatten, 0⟩), (25, ⟨true, b25, 0, 96, encs EntE L, (c25 - (L).length) * 33⟩), (30, ⟨true, b30, 0, 96, encs EntE [mkEnt next psk], 0⟩)]) := by
     clear hG5_0 hG5_2 hG5_4 hG5_5 hG5_6
     refine hGo ?_
     refine At.bStep [1, 13] (by kernel_rfl) (by simp) ?_
     refine ⟨?_, ?_⟩
     ·
      refine At.bSQ (some 19) (Q_loadN (k := 2) (j := 0) (cs := (key).map u8V) rfl rfl Try.underlying23 rfl sz23 rfl rfl rfl (seg_at (i := 0) rfl LN LN) LN) ?_
      exact At.into (hGi (hG5_3 A25 b25 c25 b30 b7 g25a g25b)) rfl rfl
     ·
      refine At.bS true (by kernel_rfl) (S_appendE (en := EntE) (some 31) 25 ((L ++ [mkEnt next psk])) (l := L) (L := [mkEnt next psk]) (m := 1) (sz := 33) rfl rfl Try.underlying38 Try.underlying38 (.inr ⟨_, rfl⟩) sz96 by96 ze96 rfl rfl (fun h => ⟨g25a h, rfl⟩) LN OG OG (SrcE.all (en := EntE) (k := 30) (L := [mkEnt next psk]) rfl rfl (fun _ => rfl) (fun _ => ⟨rfl, rfl, rfl⟩) LN) OG OG rfl LN ?_)
      intro A31 b31 c31 g31a g31b
      refine At.bQ  1 (some 19) (Q_loadN (k := 2) (j := 0) (cs := (key).map u8V) rfl rfl Try.underlying23 rfl sz23 rfl rfl rfl (seg_at (i := 0) rfl LN LN) LN) (by kernel_rfl) (by kernel_rfl) ?_
      refine At.bP  14 (some 32) (P_build_struct (cs := ([(key).map u8V, [iV (next + 1), .slice A31 ((L ++ [mkEnt next psk]).length) c31]].flatten).toArray) (parts := _) (vs := [(0, _), (1, _), (2, _)]) rfl Try.underlying40 ze40 pl40 rfl (by show Instr.fill _ ([(List.replicate 32 0#8).map u8V, [iV 0], [.slice none 0 0]].flatten).toArray _ = _; refine fill_seg (k := 0) (vs := (key).map u8V) rfl rfl LN rfl LN LN ?_; refine fill_seg (k := 1) (vs := [iV (next + 1)]) rfl rfl LN rfl LN LN ?_; refine fill_seg (k := 2) (vs := [.slice A31 ((L ++ [mkEnt next psk]).length) c31]) rfl rfl LN rfl LN LN ?_; exact fill_end (by simp))) (by kernel_rfl) (by kernel_rfl) ?_
      exact At.into (hGi (hG5_1 A25 b25 c25 b30 A31 b31 c31 b7 g25a g25b g31a g31b)) rfl rfl
    have hG5_8 (A25 : Option Addr) (b25 c25 : Nat) (g25a : 0 < c25 → A25 = some ⟨b25, 0, none⟩) (g25b : L.length ≤ c25) : G 5 #[true, true, true, true, true, true, true, true, true, true, true, true, false, false, false, false, false] (frOf [(2, ptr b2 0), (4, ptr b4 0), (5, iV 0), (6, iV 0), (19, aggK key), (22, iV (next + 1)), (25, .slice A25 L.length c25), (29, .agg ([[iV next], (psk).map u8V].flatten).toArray)]) (hOf [(0, ⟨false, b, q, 0, encs EntE L, 0⟩), (2, ⟨true, b2, 0, 40, [(key).map u8V, [iV next, .slice A n c]].flatten, 0⟩), (4, ⟨true, b4, 0, 40, [(List.replicate 32 0#8).map u8V, [iV 0, .slice none 0 0]].flatten, 0⟩), (25, ⟨true, b25, 0, 96, encs EntE L, (c25 - (L).length) * 33⟩)]) := by
     clear hG5_0 hG5_1 hG5_2 hG5_3 hG5_6 hG5_7
     refine hGo ?_
     refine At.bStep [12, 15] (by kernel_rfl) (by simp) ?_
     refine ⟨?_, ?_⟩
     ·
      refine At.bS false (by kernel_rfl) (S_buildSliceE (some 30) 30 (cs := [[iV next], (psk).map u8V].flatten) rfl Try.underlying38 sz96 ze96 rfl rfl LN (by decide) (by decide) (fun b30 => ?_))
      refine At.row 30 (⟨true, b30, 0, 96, encs EntE [mkEnt next psk], 0⟩) rfl (ent_row LN) ?_
      exact At.into (hGi (hG5_4 A25 b25 c25 b30 g25a g25b)) rfl rfl
     ·
      refine At.bS false (by kernel_rfl) (S_alloc (some 7) 7 (zs := [(List.replicate 32 0#8).map u8V, [iV 0, .slice none 0 0]].flatten) rfl ze40 rfl (fun b7 => ?_))
      exact At.into (hGi (hG5_5 A25 b25 c25 b7 g25a g25b)) rfl rfl
    have hG5_9 (b30 : Nat) : G 5 #[true, true, true, true, true, true, true, false, true, true, true, true, true, false, false, false, false] (frOf [(2, ptr b2 0), (4, ptr b4 0), (5, iV 0), (6, iV 0), (19, aggK key), (22, iV (next + 1)), (24, .slice A n c), (30, .slice (some ⟨b30, 0, none⟩) 1 1)]) (hOf [(0, ⟨false, b, q, 0, encs EntE L, 0⟩), (2, ⟨true, b2, 0, 40, [(key).map u8V, [iV next, .slice A n c]].flatten, 0⟩), (4, ⟨true, b4, 0, 40, [(List.replicate 32 0#8).map u8V, [iV 0, .slice none 0 0]].flatten, 0⟩), (30, ⟨true, b30, 0, 96, encs EntE [mkEnt next psk], 0⟩)]) := by
     clear hG5_0 hG5_1 hG5_2 hG5_3 hG5_5 hG5_7 hG5_8
     refine hGo ?_
     refine At.bStep [7, 15] (by kernel_rfl) (by simp) ?_
     refine ⟨?_, ?_⟩
     ·
      refine At.bS false (by kernel_rfl) (S_callV (some 25) [(0, _)] [25] (vs := [_]) rfl en58 rfl (VN (by simp) rfl View.all V0) (by simp) (c_CloneEn (L := L) (A := A) (n := n) (c := c) (b := b) (q := q) LN hA OG) (by rintro _ _ ⟨A25, b25, c25, g25a, g25b, rfl, rfl⟩; rfl) ?_)
      rintro _ _ ⟨A25, b25, c25, g25a, g25b, rfl, rfl⟩
      exact At.into (hGi (hG5_4 A25 b25 c25 b30 g25a g25b)) rfl rfl
     ·
      refine At.bS false (by kernel_rfl) (S_alloc (some 7) 7 (zs := [(List.replicate 32 0#8).map u8V, [iV 0, .slice none 0 0]].flatten) rfl ze40 rfl (fun b7 => ?_))
      exact At.into (hGi (hG5_6 b30 b7)) rfl rfl
    have hG5_10 (b7 : Nat) : G 5 #[true, true, true, true, true, true, true, false, true, true, true, true, false, false, false, true, false] (frOf [(2, ptr b2 0), (4, ptr b4 0), (5, iV 0), (6, iV 0), (7, ptr b7 0), (19, aggK key), (22, iV (next + 1)), (24, .slice A n c), (29, .agg ([[iV next], (psk).map u8V].flatten).toArray)]) (hOf [(0, ⟨false, b, q, 0, encs EntE L, 0⟩), (2, ⟨true, b2, 0, 40, [(key).map u8V, [iV next, .slice A n c]].flatten, 0⟩), (4, ⟨true, b4, 0, 40, [(List.replicate 32 0#8).map u8V, [iV 0, .slice none 0 0]].flatten, 0⟩), (7, ⟨true, b7, 0, 40, [(List.replicate 32 0#8).map u8V, [iV 0, .slice none 0 0]].flatten, 0⟩)]) := by
     clear hG5_0 hG5_1 hG5_2 hG5_3 hG5_4 hG5_7 hG5_8 hG5_9
     refine hGo ?_
     refine At.bStep [7, 12] (by kernel_rfl) (by simp) ?_
     refine ⟨?_, ?_⟩
     ·
      refine At.bS false (by kernel_rfl) (S_callV (some 25) [(0, _)] [25] (vs := [_]) rfl en58 rfl (VN (by simp) rfl View.all V0) (by simp) (c_CloneEn (L := L) (A := A) (n := n) (c := c) (b := b) (q := q) LN hA OG) (by rintro _ _ ⟨A25, b25, c25, g25a, g25b, rfl, rfl⟩; rfl) ?_)
      rintro _ _ ⟨A25, b25, c25, g25a, g25b, rfl, rfl⟩
      exact At.into (hGi (hG5_5 A25 b25 c25 b7 g25a g25b)) rfl rfl
     ·
      refine At.bS false (by kernel_rfl) (S_buildSliceE (some 30) 30 (cs := [[iV next], (psk).map u8V].flatten) rfl Try.underlying38 sz96 ze96 rfl rfl LN (by decide) (by decide) (fun b30 => ?_))
      refine At.row 30 (⟨true, b30, 0, 96, encs EntE [mkEnt next psk], 0⟩) rfl (ent_row LN) ?_
      exact At.into (hGi (hG5_6 b30 b7)) rfl rfl
    have hG5_11 (b30 : Nat) (b7 : Nat) : G 5 #[true, true, true, true, true, true, false, false, true, true, true, true, true, false, false, true, false] (frOf [(2, ptr b2 0), (4, ptr b4 0), (5, iV 0), (6, iV 0), (7, ptr b7 0), (19, aggK key), (22, iV (next + 1)), (23, ptr b2 33), (30, .slice (some ⟨b30, 0, none⟩) 1 1)]) (hOf [(0, ⟨false, b, q, 0, encs EntE L, 0⟩), (2, ⟨true, b2, 0, 40, [(key).map u8V, [iV next, .slice A n c]].flatten, 0⟩), (4, ⟨true, b4, 0, 40, [(List.replicate 32 0#8).map u8V, [iV 0, .slice none 0 0]].flatten, 0⟩), (7, ⟨true, b7, 0, 40, [(List.replicate 32 0#8).map u8V, [iV 0, .slice none 0 0]].flatten, 0⟩), (30, ⟨true, b30, 0, 96, encs EntE [mkEnt next psk], 0⟩)]) := by
     clear hG5_0 hG5_1 hG5_2 hG5_3 hG5_4 hG5_5 hG5_7 hG5_8 hG5_9 hG5_10
     refine hGo ?_
     refine At.bStep [6] (by kernel_rfl) (by simp) ?_
     refine At.bSQ (some 24) (Q_loadO (k := 2) rfl rfl Try.underlying38 rfl rfl (seg_get (i := 1) (p := 1) rfl LN rfl)) ?_
     exact At.into (hGi (hG5_6 b30 b7)) rfl rfl
    have hG5_12 (A25 : Option Addr) (b25 c25 : Nat) (b30 : Nat) (b7 : Nat) (g25a : 0 < c25 → A25 = some ⟨b25, 0, none⟩) (g25b : L.length ≤ c25) : G 5 #[true, true, true, false, false, true, true, true, true, true, true, true, true, false, false, true, false] (frOf [(2, ptr b2 0), (4, ptr b4 0), (5, iV 0), (6, iV 0), (7, ptr b7 0), (19, aggK key), (20, ptr b2 32), (25, .slice A25 L.length c25), (30, .slice (some ⟨b30, 0, none⟩) 1 1)]) (hOf [(0, ⟨false, b, q, 0, encs EntE L, 0⟩), (2, ⟨true, b2, 0, 40, [(key).map u8V, [iV next, .slice A n c]].flatten, 0⟩), (4, ⟨true, b4, 0, 40, [(List.replicate 32 0#8).map u8V, [iV 0, .slice none 0 0]].flatten, 0⟩), (7, ⟨true, b7, 0, 40, [(List.replicate 32 0#8).map u8V, [iV 0, .slice none 0 0]].flatten, 0⟩), (25, ⟨true, b25, 0, 96, encs EntE L, (c25 - (L).length) * 33⟩), (30, ⟨true, b30, 0, 96, encs EntE [mkEnt next psk], 0⟩)]) := by
     clear hG5_0 hG5_2 hG5_4 hG5_5 hG5_6 hG5_7 hG5_8 hG5_9 hG5_10 hG5_11
     refine hGo ?_
     refine At.bStep [3, 13] (by kernel_rfl) (by simp) ?_
     refine ⟨?_, ?_⟩
     ·
      refine At.bSQ (some 21) (Q_loadO (k := 2) rfl rfl Try.underlying3 rfl rfl (seg_get (i := 1) (p := 0) rfl LN rfl)) ?_
      refine At.bP  4 (some 22) (P_add_i rfl rfl rfl (by omega)) (by kernel_rfl) (by kernel_rfl) ?_
      exact At.into (hGi (hG5_3 A25 b25 c25 b30 b7 g25a g25b)) rfl rfl
     ·
      refine At.bS true (by kernel_rfl) (S_appendE (en := EntE) (some 31) 25 ((L ++ [mkEnt next psk])) (l := L) (L := [mkEnt next psk]) (m := 1) (sz := 33) rfl rfl Try.underlying38 Try.underlying38 (.inr ⟨_, rfl⟩) sz96 by96 ze96 rfl rfl (fun h => ⟨g25a h, rfl⟩) LN OG OG (SrcE.all (en := EntE) (k := 30) (L := [mkEnt next psk]) rfl rfl (fun _ => rfl) (fun _ => ⟨rfl, rfl, rfl⟩) LN) OG OG rfl LN ?_)
      intro A31 b31 c31 g31a g31b
      refine At.bQ  3 (some 21) (Q_loadO (k := 2) rfl rfl Try.underlying3 rfl rfl (seg_get (i := 1) (p := 0) rfl LN rfl)) (by kernel_rfl) (by kernel_rfl) ?_
      refine At.bP  4 (some 22) (P_add_i rfl rfl rfl (by omega)) (by kernel_rfl) (by kernel_rfl) ?_
      refine At.bP  14 (some 32) (P_build_struct (cs := ([(key).map u8V, [iV (next + 1), .slice A31 ((L ++ [mkEnt next psk]).length) c31]].flatten).toArray) (parts := _) (vs := [(0, _), (1, _), (2, _)]) rfl Try.underlying40 ze40 pl40 rfl (by show Instr.fill _ ([(List.replicate 32 0#8).map u8V, [iV 0], [.slice none 0 0]].flatten).toArray _ = _; refine fill_seg (k := 0) (vs := (key).map u8V) rfl rfl LN rfl LN LN ?_; refine fill_seg (k := 1) (vs := [iV (next + 1)]) rfl rfl LN rfl LN LN ?_; refine fill_seg (k := 2) (vs := [.slice A31 ((L ++ [mkEnt next psk]).length) c31]) rfl rfl LN rfl LN LN ?_; exact fill_end (by simp))) (by kernel_rfl) (by kernel_rfl) ?_
      exact At.into (hGi (hG5_1 A25 b25 c25 b30 A31 b31 c31 b7 g25a g25b g31a g31b)) rfl rfl
    have hG5_13 (A25 : Option Addr) (b25 c25 : Nat) (b30 : Nat) (g25a : 0 < c25 → A25 = some ⟨b25, 0, none⟩) (g25b : L.length ≤ c25) : G 5 #[true, false, true, true, true, true, true, true, true, true, true, true, true, false, false, false, false] (frOf [(2, ptr b2 0), (4, ptr b4 0), (5, iV 0), (6, iV 0), (18, ptr b2 0), (22, iV (next + 1)), (25, .slice A25 L.length c25), (30, .slice (some ⟨b30, 0, none⟩) 1 1)]) (hOf [(0, ⟨false, b, q, 0, encs EntE L, 0⟩), (2, ⟨true, b2, 0, 40, [(key).map u8V, [iV next, .slice A n c]].flatten, 0⟩), (4, ⟨true, b4, 0, 40, [(List.replicate 32 0#8).map u8V, [iV 0, .slice none 0 0]].flatten, 0⟩), (25, ⟨true, b25, 0, 96, encs EntE L, (c25 - (L).length) * 33⟩), (30, ⟨true, b30, 0, 96, encs EntE [mkEnt next psk], 0⟩)]) := by
     clear hG5_0 hG5_1 hG5_3 hG5_5 hG5_6 hG5_8 hG5_9 hG5_10 hG5_11 hG5_12
     refine hGo ?_
     refine At.bStep [1, 13, 15] (by kernel_rfl) (by simp) ?_
     refine ⟨?_, ?_, ?_⟩
     ·
      refine At.bSQ (some 19) (Q_loadN (k := 2) (j := 0) (cs := (key).map u8V) rfl rfl Try.underlying23 rfl sz23 rfl rfl rfl (seg_at (i := 0) rfl LN LN) LN) ?_
      exact At.into (hGi (hG5_4 A25 b25 c25 b30 g25a g25b)) rfl rfl
     ·
      refine At.bS true (by kernel_rfl) (S_appendE (en := EntE) (some 31) 25 ((L ++ [mkEnt next psk])) (l := L) (L := [mkEnt next psk]) (m := 1) (sz := 33) rfl rfl Try.underlying38 Try.underlying38 (.inr ⟨_, rfl⟩) sz96 by96 ze96 rfl rfl (fun h => ⟨g25a h, rfl⟩) LN OG OG (SrcE.all (en := EntE) (k := 30) (L := [mkEnt next psk]) rfl rfl (fun _ => rfl) (fun _ => ⟨rfl, rfl, rfl⟩) LN) OG OG rfl LN ?_)
      intro A31 b31 c31 g31a g31b
      refine At.bQ  1 (some 19) (Q_loadN (k := 2) (j := 0) (cs := (key).map u8V) rfl rfl Try.underlying23 rfl sz23 rfl rfl rfl (seg_at (i := 0) rfl LN LN) LN) (by kernel_rfl) (by kernel_rfl) ?_
      refine At.bP  14 (some 32) (P_build_struct (cs := ([(key).map u8V, [iV (next + 1), .slice A31 ((L ++ [mkEnt next psk]).length) c31]].flatten).toArray) (parts := _) (vs := [(0, _), (1, _), (2, _)]) rfl Try.underlying40 ze40 pl40 rfl (by show Instr.fill _ ([(List.replicate 32 0#8).map u8V, [iV 0], [.slice none 0 0]].flatten).toArray _ = _; refine fill_seg (k := 0) (vs := (key).map u8V) rfl rfl LN rfl LN LN ?_; refine fill_seg (k := 1) (vs := [iV (next + 1)]) rfl rfl LN rfl LN LN ?_; refine fill_seg (k := 2) (vs := [.slice A31 ((L ++ [mkEnt next psk]).length) c31]) rfl rfl LN rfl LN LN ?_; exact fill_end (by simp))) (by kernel_rfl) (by kernel_rfl) ?_
      exact At.into (hGi (hG5_2 A25 b25 c25 b30 A31 b31 c31 g25a g25b g31a g31b)) rfl rfl
     ·
      refine At.bS false (by kernel_rfl) (S_alloc (some 7) 7 (zs := [(List.replicate 32 0#8).map u8V, [iV 0, .slice none 0 0]].flatten) rfl ze40 rfl (fun b7 => ?_))
      exact At.into (hGi (hG5_7 A25 b25 c25 b30 b7 g25a g25b)) rfl rfl
    have hG5_14 (A25 : Option Addr) (b25 c25 : Nat) (b7 : Nat) (g25a : 0 < c25 → A25 = some ⟨b25, 0, none⟩) (g25b : L.length ≤ c25) : G 5 #[true, false, true, true, true, true, true, true, true, true, true, true, false, false, false, true, false] (frOf [(2, ptr b2 0), (4, ptr b4 0), (5, iV 0), (6, iV 0), (7, ptr b7 0), (18, ptr b2 0), (22, iV (next + 1)), (25, .slice A25 L.length c25), (29, .agg ([[iV next], (psk).map u8V].flatten).toArray)]) (hOf [(0, ⟨false, b, q, 0, encs EntE L, 0⟩), (2, ⟨true, b2, 0, 40, [(key).map u8V, [iV next, .slice A n c]].flatten, 0⟩), (4, ⟨true, b4, 0, 40, [(List.replicate 32 0#8).map u8V, [iV 0, .slice none 0 0]].flatten, 0⟩), (7, ⟨true, b7, 0, 40, [(List.replicate 32 0#8).map u8V, [iV 0, .slice none 0 0]].flatten, 0⟩), (25, ⟨true, b25, 0, 96, encs EntE L, (c25 - (L).length) * 33⟩)]) := by
     clear hG5_0 hG5_1 hG5_2 hG5_3 hG5_4 hG5_6 hG5_8 hG5_9 hG5_10 hG5_11 hG5_12 hG5_13
     refine hGo ?_
     refine At.bStep [1, 12] (by kernel_rfl) (by simp) ?_
     refine ⟨?_, ?_⟩
     ·
      refine At.bSQ (some 19) (Q_loadN (k := 2) (j := 0) (cs := (key).map u8V) rfl rfl Try.underlying23 rfl sz23 rfl rfl rfl (seg_at (i := 0) rfl LN LN) LN) ?_
      exact At.into (hGi (hG5_5 A25 b25 c25 b7 g25a g25b)) rfl rfl
     ·
      refine At.bS false (by kernel_rfl) (S_buildSliceE (some 30) 30 (cs := [[iV next], (psk).map u8V].flatten) rfl Try.underlying38 sz96 ze96 rfl rfl LN (by decide) (by decide) (fun b30 => ?_))
      refine At.row 30 (⟨true, b30, 0, 96, encs EntE [mkEnt next psk], 0⟩) rfl (ent_row LN) ?_
      exact At.into (hGi (hG5_7 A25 b25 c25 b30 b7 g25a g25b)) rfl rfl
    have hG5_15 (b30 : Nat) (b7 : Nat) : G 5 #[true, false, true, true, true, true, true, false, true, true, true, true, true, false, false, true, false] (frOf [(2, ptr b2 0), (4, ptr b4 0), (5, iV 0), (6, iV 0), (7, ptr b7 0), (18, ptr b2 0), (22, iV (next + 1)), (24, .slice A n c), (30, .slice (some ⟨b30, 0, none⟩) 1 1)]) (hOf [(0, ⟨false, b, q, 0, encs EntE L, 0⟩), (2, ⟨true, b2, 0, 40, [(key).map u8V, [iV next, .slice A n c]].flatten, 0⟩), (4, ⟨true, b4, 0, 40, [(List.replicate 32 0#8).map u8V, [iV 0, .slice none 0 0]].flatten, 0⟩), (7, ⟨true, b7, 0, 40, [(List.replicate 32 0#8).map u8V, [iV 0, .slice none 0 0]].flatten, 0⟩), (30, ⟨true, b30, 0, 96, encs EntE [mkEnt next psk], 0⟩)]) := by
     clear hG5_0 hG5_1 hG5_2 hG5_3 hG5_4 hG5_5 hG5_8 hG5_9 hG5_10 hG5_11 hG5_12 hG5_13 hG5_14
     refine hGo ?_
     refine At.bStep [1, 7] (by kernel_rfl) (by simp) ?_
     refine ⟨?_, ?_⟩
     ·
      refine At.bSQ (some 19) (Q_loadN (k := 2) (j := 0) (cs := (key).map u8V) rfl rfl Try.underlying23 rfl sz23 rfl rfl rfl (seg_at (i := 0) rfl LN LN) LN) ?_
      exact At.into (hGi (hG5_6 b30 b7)) rfl rfl
     ·
      refine At.bS false (by kernel_rfl) (S_callV (some 25) [(0, _)] [25] (vs := [_]) rfl en58 rfl (VN (by simp) rfl View.all V0) (by simp) (c_CloneEn (L := L) (A := A) (n := n) (c := c) (b := b) (q := q) LN hA OG) (by rintro _ _ ⟨A25, b25, c25, g25a, g25b, rfl, rfl⟩; rfl) ?_)
      rintro _ _ ⟨A25, b25, c25, g25a, g25b, rfl, rfl⟩
      exact At.into (hGi (hG5_7 A25 b25 c25 b30 b7 g25a g25b)) rfl rfl
    have hG5_16 (A25 : Option Addr) (b25 c25 : Nat) (b7 : Nat) (g25a : 0 < c25 → A25 = some ⟨b25, 0, none⟩) (g25b : L.length ≤ c25) : G 6 #[true, true, true, true, true, true, true, true, true, true, false, false, false, false, false, true, false] (frOf [(2, ptr b2 0), (3, ptr b3 0), (4, ptr b4 0), (5, iV 0), (6, iV 0), (7, ptr b7 0), (19, aggK key), (22, iV (next + 1)), (25, .slice A25 L.length c25), (27, iV next)]) (hOf [(0, ⟨false, b, q, 0, encs EntE L, 0⟩), (2, ⟨true, b2, 0, 40, [(key).map u8V, [iV next, .slice A n c]].flatten, 0⟩), (3, ⟨true, b3, 0, 23, (psk).map u8V, 0⟩), (4, ⟨true, b4, 0, 40, [(List.replicate 32 0#8).map u8V, [iV 0, .slice none 0 0]].flatten, 0⟩), (7, ⟨true, b7, 0, 40, [(List.replicate 32 0#8).map u8V, [iV 0, .slice none 0 0]].flatten, 0⟩), (25, ⟨true, b25, 0, 96, encs EntE L, (c25 - (L).length) * 33⟩)]) := by
     clear hG5_0 hG5_1 hG5_2 hG5_3 hG5_4 hG5_6 hG5_7 hG5_8 hG5_9 hG5_10 hG5_11 hG5_12 hG5_13 hG5_14 hG5_15
     refine hGo ?_
     refine At.bStep [10] (by kernel_rfl) (by simp) ?_
     refine At.bSQ (some 28) (Q_loadA (k := 3) rfl rfl Try.underlying23 rfl sz23 LN rfl) ?_
     refine At.bP  11 (some 29) (P_build_struct (cs := ([[iV next], (psk).map u8V].flatten).toArray) (parts := _) (vs := [(0, _), (1, _)]) rfl Try.underlying96 ze96 pl96 rfl (by show Instr.fill _ ([[iV 0], (List.replicate 32 0#8).map u8V].flatten).toArray _ = _; refine fill_seg (k := 0) (vs := [iV next]) rfl rfl LN rfl LN LN ?_; refine fill_seg (k := 1) (vs := (psk).map u8V) rfl rfl LN rfl LN LN ?_; exact fill_end (by simp))) (by kernel_rfl) (by kernel_rfl) ?_
     exact At.into (hGi (hG5_5 A25 b25 c25 b7 g25a g25b)) rfl rfl
    have hG5_17 (A25 : Option Addr) (b25 c25 : Nat) (b7 : Nat) (g25a : 0 < c25 → A25 = some ⟨b25, 0, none⟩) (g25b : L.length ≤ c25) : G 6 #[true, true, true, true, true, true, true, true, true, false, true, false, false, false, false, true, false] (frOf [(2, ptr b2 0), (4, ptr b4 0), (5, iV 0), (6, iV 0), (7, ptr b7 0), (19, aggK key), (22, iV (next + 1)), (25, .slice A25 L.length c25), (26, ptr b2 32), (28, aggK psk)]) (hOf [(0, ⟨false, b, q, 0, encs EntE L, 0⟩), (2, ⟨true, b2, 0, 40, [(key).map u8V, [iV next, .slice A n c]].flatten, 0⟩), (4, ⟨true, b4, 0, 40, [(List.replicate 32 0#8).map u8V, [iV 0, .slice none 0 0]].flatten, 0⟩), (7, ⟨true, b7, 0, 40, [(List.replicate 32 0#8).map u8V, [iV 0, .slice none 0 0]].flatten, 0⟩), (25, ⟨true, b25, 0, 96, encs EntE L, (c25 - (L).length) * 33⟩)]) := by
     clear hG5_0 hG5_1 hG5_2 hG5_3 hG5_4 hG5_6 hG5_7 hG5_8 hG5_9 hG5_10 hG5_11 hG5_12 hG5_13 hG5_14 hG5_15 hG5_16
     refine hGo ?_
     refine At.bStep [9] (by kernel_rfl) (by simp) ?_
     refine At.bSQ (some 27) (Q_loadO (k := 2) rfl rfl Try.underlying3 rfl rfl (seg_get (i := 1) (p := 0) rfl LN rfl)) ?_
     refine At.bP  11 (some 29) (P_build_struct (cs := ([[iV next], (psk).map u8V].flatten).toArray) (parts := _) (vs := [(0, _), (1, _)]) rfl Try.underlying96 ze96 pl96 rfl (by show Instr.fill _ ([[iV 0], (List.replicate 32 0#8).map u8V].flatten).toArray _ = _; refine fill_seg (k := 0) (vs := [iV next]) rfl rfl LN rfl LN LN ?_; refine fill_seg (k := 1) (vs := (psk).map u8V) rfl rfl LN rfl LN LN ?_; exact fill_end (by simp))) (by kernel_rfl) (by kernel_rfl) ?_
     exact At.into (hGi (hG5_5 A25 b25 c25 b7 g25a g25b)) rfl rfl
    have hG5_18  : G 6 #[true, true, true, true, true, true, true, false, true, true, true, true, false, false, false, false, false] (frOf [(2, ptr b2 0), (4, ptr b4 0), (5, iV 0), (6, iV 0), (19, aggK key), (22, iV (next + 1)), (24, .slice A n c), (29, .agg ([[iV next], (psk).map u8V].flatten).toArray)]) (hOf [(0, ⟨false, b, q, 0, encs EntE L, 0⟩), (2, ⟨true, b2, 0, 40, [(key).map u8V, [iV next, .slice A n c]].flatten, 0⟩), (4, ⟨true, b4, 0, 40, [(List.replicate 32 0#8).map u8V, [iV 0, .slice none 0 0]].flatten, 0⟩)]) := by
     clear hG5_0 hG5_1 hG5_2 hG5_3 hG5_4 hG5_5 hG5_6 hG5_7 hG5_11 hG5_12 hG5_13 hG5_14 hG5_15 hG5_16 hG5_17
     refine hGo ?_
     refine At.bStep [7, 12, 15] (by kernel_rfl) (by simp) ?_
     refine ⟨?_, ?_, ?_⟩
     ·
      refine At.bS false (by kernel_rfl) (S_callV (some 25) [(0, _)] [25] (vs := [_]) rfl en58 rfl (VN (by simp) rfl View.all V0) (by simp) (c_CloneEn (L := L) (A := A) (n := n) (c := c) (b := b) (q := q) LN hA OG) (by rintro _ _ ⟨A25, b25, c25, g25a, g25b, rfl, rfl⟩; rfl) ?_)
      rintro _ _ ⟨A25, b25, c25, g25a, g25b, rfl, rfl⟩
      exact At.into (hGi (hG5_8 A25 b25 c25 g25a g25b)) rfl rfl
     ·
      refine At.bS false (by kernel_rfl) (S_buildSliceE (some 30) 30 (cs := [[iV next], (psk).map u8V].flatten) rfl Try.underlying38 sz96 ze96 rfl rfl LN (by decide) (by decide) (fun b30 => ?_))
      refine At.row 30 (⟨true, b30, 0, 96, encs EntE [mkEnt next psk], 0⟩) rfl (ent_row LN) ?_
      exact At.into (hGi (hG5_9 b30)) rfl rfl
     ·
      refine At.bS false (by kernel_rfl) (S_alloc (some 7) 7 (zs := [(List.replicate 32 0#8).map u8V, [iV 0, .slice none 0 0]].flatten) rfl ze40 rfl (fun b7 => ?_))
      exact At.into (hGi (hG5_10 b7)) rfl rfl
    have hG5_19 (b30 : Nat) : G 6 #[true, true, true, true, true, true, false, false, true, true, true, true, true, false, false, false, false] (frOf [(2, ptr b2 0), (4, ptr b4 0), (5, iV 0), (6, iV 0), (19, aggK key), (22, iV (next + 1)), (23, ptr b2 33), (30, .slice (some ⟨b30, 0, none⟩) 1 1)]) (hOf [(0, ⟨false, b, q, 0, encs EntE L, 0⟩), (2, ⟨true, b2, 0, 40, [(key).map u8V, [iV next, .slice A n c]].flatten, 0⟩), (4, ⟨true, b4, 0, 40, [(List.replicate 32 0#8).map u8V, [iV 0, .slice none 0 0]].flatten, 0⟩), (30, ⟨true, b30, 0, 96, encs EntE [mkEnt next psk], 0⟩)]) := by
     clear hG5_0 hG5_1 hG5_2 hG5_3 hG5_4 hG5_5 hG5_6 hG5_7 hG5_8 hG5_10 hG5_12 hG5_13 hG5_14 hG5_15 hG5_16 hG5_17 hG5_18
     refine hGo ?_
     refine At.bStep [6, 15] (by kernel_rfl) (by simp) ?_
     refine ⟨?_, ?_⟩
     ·
      refine At.bSQ (some 24) (Q_loadO (k := 2) rfl rfl Try.underlying38 rfl rfl (seg_get (i := 1) (p := 1) rfl LN rfl)) ?_
      exact At.into (hGi (hG5_9 b30)) rfl rfl
     ·
      refine At.bS false (by kernel_rfl) (S_alloc (some 7) 7 (zs := [(List.replicate 32 0#8).map u8V, [iV 0, .slice none 0 0]].flatten) rfl ze40 rfl (fun b7 => ?_))
      exact At.into (hGi (hG5_11 b30 b7)) rfl rfl
    have hG5_20 (b7 : Nat) : G 6 #[true, true, true, true, true, true, false, false, true, true, true, true, false, false, false, true, false] (frOf [(2, ptr b2 0), (4, ptr b4 0), (5, iV 0), (6, iV 0), (7, ptr b7 0), (19, aggK key), (22, iV (next + 1)), (23, ptr b2 33), (29, .agg ([[iV next], (psk).map u8V].flatten).toArray)]) (hOf [(0, ⟨false, b, q, 0, encs EntE L, 0⟩), (2, ⟨true, b2, 0, 40, [(key).map u8V, [iV next, .slice A n c]].flatten, 0⟩), (4, ⟨true, b4, 0, 40, [(List.replicate 32 0#8).map u8V, [iV 0, .slice none 0 0]].flatten, 0⟩), (7, ⟨true, b7, 0, 40, [(List.replicate 32 0#8).map u8V, [iV 0, .slice none 0 0]].flatten, 0⟩)]) := by
     clear hG5_0 hG5_1 hG5_2 hG5_3 hG5_4 hG5_5 hG5_6 hG5_7 hG5_8 hG5_9 hG5_12 hG5_13 hG5_14 hG5_15 hG5_16 hG5_17 hG5_18 hG5_19
     refine hGo ?_
     refine At.bStep [6, 12] (by kernel_rfl) (by simp) ?_
     refine ⟨?_, ?_⟩
     ·
      refine At.bSQ (some 24) (Q_loadO (k := 2) rfl rfl Try.underlying38 rfl rfl (seg_get (i := 1) (p := 1) rfl LN rfl)) ?_
      exact At.into (hGi (hG5_10 b7)) rfl rfl
     ·
      refine At.bS false (by kernel_rfl) (S_buildSliceE (some 30) 30 (cs := [[iV next], (psk).map u8V].flatten) rfl Try.underlying38 sz96 ze96 rfl rfl LN (by decide) (by decide) (fun b30 => ?_))
      refine At.row 30 (⟨true, b30, 0, 96, encs EntE [mkEnt next psk], 0⟩) rfl (ent_row LN) ?_
      exact At.into (hGi (hG5_11 b30 b7)) rfl rfl
    have hG5_21 (A25 : Option Addr) (b25 c25 : Nat) (b30 : Nat) (g25a : 0 < c25 → A25 = some ⟨b25, 0, none⟩) (g25b : L.length ≤ c25) : G 6 #[true, true, true, false, false, true, true, true, true, true, true, true, true, false, false, false, false] (frOf [(2, ptr b2 0), (4, ptr b4 0), (5, iV 0), (6, iV 0), (19, aggK key), (20, ptr b2 32), (25, .slice A25 L.length c25), (30, .slice (some ⟨b30, 0, none⟩) 1 1)]) (hOf [(0, ⟨false, b, q, 0, encs EntE L, 0⟩), (2, ⟨true, b2, 0, 40, [(key).map u8V, [iV next, .slice A n c]].flatten, 0⟩), (4, ⟨true, b4, 0, 40, [(List.replicate 32 0#8).map u8V, [iV 0, .slice none 0 0]].flatten, 0⟩), (25, ⟨true, b25, 0, 96, encs EntE L, (c25 - (L).length) * 33⟩), (30, ⟨true, b30, 0, 96, encs EntE [mkEnt next psk], 0⟩)]) := by
     clear hG5_0 hG5_1 hG5_3 hG5_5 hG5_6 hG5_7 hG5_8 hG5_9 hG5_10 hG5_11 hG5_13 hG5_14 hG5_15 hG5_16 hG5_17 hG5_18 hG5_19 hG5_20
     refine hGo ?_
     refine At.bStep [3, 13, 15] (by kernel_rfl) (by simp) ?_
     refine ⟨?_, ?_, ?_⟩
     ·
      refine At.bSQ (some 21) (Q_loadO (k := 2) rfl rfl Try.underlying3 rfl rfl (seg_get (i := 1) (p := 0) rfl LN rfl)) ?_
      refine At.bP  4 (some 22) (P_add_i rfl rfl rfl (by omega)) (by kernel_rfl) (by kernel_rfl) ?_
      exact At.into (hGi (hG5_4 A25 b25 c25 b30 g25a g25b)) rfl rfl
     ·
      refine At.bS true (by kernel_rfl) (S_appendE (en := EntE) (some 31) 25 ((L ++ [mkEnt next psk])) (l := L) (L := [mkEnt next psk]) (m := 1) (sz := 33) rfl rfl Try.underlying38 Try.underlying38 (.inr ⟨_, rfl⟩) sz96 by96 ze96 rfl rfl (fun h => ⟨g25a h, rfl⟩) LN OG OG (SrcE.all (en := EntE) (k := 30) (L := [mkEnt next psk]) rfl rfl (fun _ => rfl) (fun _ => ⟨rfl, rfl, rfl⟩) LN) OG OG rfl LN ?_)
      intro A31 b31 c31 g31a g31b
      refine At.bQ  3 (some 21) (Q_loadO (k := 2) rfl rfl Try.underlying3 rfl rfl (seg_get (i := 1) (p := 0) rfl LN rfl)) (by kernel_rfl) (by kernel_rfl) ?_
      refine At.bP  4 (some 22) (P_add_i rfl rfl rfl (by omega)) (by kernel_rfl) (by kernel_rfl) ?_
      refine At.bP  14 (some 32) (P_build_struct (cs := ([(key).map u8V, [iV (next + 1), .slice A31 ((L ++ [mkEnt next psk]).length) c31]].flatten).toArray) (parts := _) (vs := [(0, _), (1, _), (2, _)]) rfl Try.underlying40 ze40 pl40 rfl (by show Instr.fill _ ([(List.replicate 32 0#8).map u8V, [iV 0], [.slice none 0 0]].flatten).toArray _ = _; refine fill_seg (k := 0) (vs := (key).map u8V) rfl rfl LN rfl LN LN ?_; refine fill_seg (k := 1) (vs := [iV (next + 1)]) rfl rfl LN rfl LN LN ?_; refine fill_seg (k := 2) (vs := [.slice A31 ((L ++ [mkEnt next psk]).length) c31]) rfl rfl LN rfl LN LN ?_; exact fill_end (by simp))) (by kernel_rfl) (by kernel_rfl) ?_
      exact At.into (hGi (hG5_2 A25 b25 c25 b30 A31 b31 c31 g25a g25b g31a g31b)) rfl rfl
     ·
      refine At.bS false (by kernel_rfl) (S_alloc (some 7) 7 (zs := [(List.replicate 32 0#8).map u8V, [iV 0, .slice none 0 0]].flatten) rfl ze40 rfl (fun b7 => ?_))
      exact At.into (hGi (hG5_12 A25 b25 c25 b30 b7 g25a g25b)) rfl rfl
    have hG5_22 (A25 : Option Addr) (b25 c25 : Nat) (b7 : Nat) (g25a : 0 < c25 → A25 = some ⟨b25, 0, none⟩) (g25b : L.length ≤ c25) : G 6 #[true, true, true, false, false, true, true, true, true, true, true, true, false, false, false, true, false] (frOf [(2, ptr b2 0), (4, ptr b4 0), (5, iV 0), (6, iV 0), (7, ptr b7 0), (19, aggK key), (20, ptr b2 32), (25, .slice A25 L.length c25), (29, .agg ([[iV next], (psk).map u8V].flatten).toArray)]) (hOf [(0, ⟨false, b, q, 0, encs EntE L, 0⟩), (2, ⟨true, b2, 0, 40, [(key).map u8V, [iV next, .slice A n c]].flatten, 0⟩), (4, ⟨true, b4, 0, 40, [(List.replicate 32 0#8).map u8V, [iV 0, .slice none 0 0]].flatten, 0⟩), (7, ⟨true, b7, 0, 40, [(List.replicate 32 0#8).map u8V, [iV 0, .slice none 0 0]].flatten, 0⟩), (25, ⟨true, b25, 0, 96, encs EntE L, (c25 - (L).length) * 33⟩)]) := by
     clear hG5_0 hG5_1 hG5_2 hG5_3 hG5_4 hG5_6 hG5_7 hG5_8 hG5_9 hG5_10 hG5_11 hG5_13 hG5_14 hG5_15 hG5_16 hG5_17 hG5_18 hG5_19 hG5_20 hG5_21
     refine hGo ?_
     refine At.bStep [3, 12] (by kernel_rfl) (by simp) ?_
     refine ⟨?_, ?_⟩
     ·
      refine At.bSQ (some 21) (Q_loadO (k := 2) rfl rfl Try.underlying3 rfl rfl (seg_get (i := 1) (p := 0) rfl LN rfl)) ?_
      refine At.bP  4 (some 22) (P_add_i rfl rfl rfl (by omega)) (by kernel_rfl) (by kernel_rfl) ?_
      exact At.into (hGi (hG5_5 A25 b25 c25 b7 g25a g25b)) rfl rfl
     ·
      refine At.bS false (by kernel_rfl) (S_buildSliceE (some 30) 30 (cs := [[iV next], (psk).map u8V].flatten) rfl Try.underlying38 sz96 ze96 rfl rfl LN (by decide) (by decide) (fun b30 => ?_))
      refine At.row 30 (⟨true, b30, 0, 96, encs EntE [mkEnt next psk], 0⟩) rfl (ent_row LN) ?_
      exact At.into (hGi (hG5_12 A25 b25 c25 b30 b7 g25a g25b)) rfl rfl
    have hG5_23 (b30 : Nat) (b7 : Nat) : G 6 #[true, true, true, false, false, true, true, false, true, true, true, true, true, false, false, true, false] (frOf [(2, ptr b2 0), (4, ptr b4 0), (5, iV 0), (6, iV 0), (7, ptr b7 0), (19, aggK key), (20, ptr b2 32), (24, .slice A n c), (30, .slice (some ⟨b30, 0, none⟩) 1 1)]) (hOf [(0, ⟨false, b, q, 0, encs EntE L, 0⟩), (2, ⟨true, b2, 0, 40, [(key).map u8V, [iV next, .slice A n c]].flatten, 0⟩), (4, ⟨true, b4, 0, 40, [(List.replicate 32 0#8).map u8V, [iV 0, .slice none 0 0]].flatten, 0⟩), (7, ⟨true, b7, 0, 40, [(List.replicate 32 0#8).map u8V, [iV 0, .slice none 0 0]].flatten, 0⟩), (30, ⟨true, b30, 0, 96, encs EntE [mkEnt next psk], 0⟩)]) := by
     clear hG5_0 hG5_1 hG5_2 hG5_3 hG5_4 hG5_5 hG5_7 hG5_8 hG5_9 hG5_10 hG5_11 hG5_13 hG5_14 hG5_15 hG5_16 hG5_17 hG5_18 hG5_19 hG5_20 hG5_21 hG5_22
     refine hGo ?_
     refine At.bStep [3, 7] (by kernel_rfl) (by simp) ?_
     refine ⟨?_, ?_⟩
     ·
      refine At.bSQ (some 21) (Q_loadO (k := 2) rfl rfl Try.underlying3 rfl rfl (seg_get (i := 1) (p := 0) rfl LN rfl)) ?_
      refine At.bP  4 (some 22) (P_add_i rfl rfl rfl (by omega)) (by kernel_rfl) (by kernel_rfl) ?_
      exact At.into (hGi (hG5_6 b30 b7)) rfl rfl
     ·
      refine At.bS false (by kernel_rfl) (S_callV (some 25) [(0, _)] [25] (vs := [_]) rfl en58 rfl (VN (by simp) rfl View.all V0) (by simp) (c_CloneEn (L := L) (A := A) (n := n) (c := c) (b := b) (q := q) LN hA OG) (by rintro _ _ ⟨A25, b25, c25, g25a, g25b, rfl, rfl⟩; rfl) ?_)
      rintro _ _ ⟨A25, b25, c25, g25a, g25b, rfl, rfl⟩
      exact At.into (hGi (hG5_12 A25 b25 c25 b30 b7 g25a g25b)) rfl rfl
    have hG5_24 (A25 : Option Addr) (b25 c25 : Nat) (g25a : 0 < c25 → A25 = some ⟨b25, 0, none⟩) (g25b : L.length ≤ c25) : G 6 #[true, false, true, true, true, true, true, true, true, true, true, true, false, false, false, false, false] (frOf [(2, ptr b2 0), (4, ptr b4 0), (5, iV 0), (6, iV 0), (18, ptr b2 0), (22, iV (next + 1)), (25, .slice A25 L.length c25), (29, .agg ([[iV next], (psk).map u8V].flatten).toArray)]) (hOf [(0, ⟨false, b, q, 0, encs EntE L, 0⟩), (2, ⟨true, b2, 0, 40, [(key).map u8V, [iV next, .slice A n c]].flatten, 0⟩), (4, ⟨true, b4, 0, 40, [(List.replicate 32 0#8).map u8V, [iV 0, .slice none 0 0]].flatten, 0⟩), (25, ⟨true, b25, 0, 96, encs EntE L, (c25 - (L).length) * 33⟩)]) := by
     clear hG5_0 hG5_1 hG5_2 hG5_3 hG5_4 hG5_5 hG5_6 hG5_7 hG5_9 hG5_10 hG5_11 hG5_12 hG5_15 hG5_16 hG5_17 hG5_18 hG5_19 hG5_20 hG5_21 hG5_22 hG5_23
     refine hGo ?_
     refine At.bStep [1, 12, 15] (by kernel_rfl) (by simp) ?_
     refine ⟨?_, ?_, ?_⟩
     ·
      refine At.bSQ (some 19) (Q_loadN (k := 2) (j := 0) (cs := (key).map u8V) rfl rfl Try.underlying23 rfl sz23 rfl rfl rfl (seg_at (i := 0) rfl LN LN) LN) ?_
      exact At.into (hGi (hG5_8 A25 b25 c25 g25a g25b)) rfl rfl
     ·
      refine At.bS false (by kernel_rfl) (S_buildSliceE (some 30) 30 (cs := [[iV next], (psk).map u8V].flatten) rfl Try.underlying38 sz96 ze96 rfl rfl LN (by decide) (by decide) (fun b30 => ?_))
      refine At.row 30 (⟨true, b30, 0, 96, encs EntE [mkEnt next psk], 0⟩) rfl (ent_row LN) ?_
      exact At.into (hGi (hG5_13 A25 b25 c25 b30 g25a g25b)) rfl rfl
     ·
      refine At.bS false (by kernel_rfl) (S_alloc (some 7) 7 (zs := [(List.replicate 32 0#8).map u8V, [iV 0, .slice none 0 0]].flatten) rfl ze40 rfl (fun b7 => ?_))
      exact At.into (hGi (hG5_14 A25 b25 c25 b7 g25a g25b)) rfl rfl
    have hG5_25 (b30 : Nat) : G 6 #[true, false, true, true, true, true, true, false, true, true, true, true, true, false, false, false, false] (frOf [(2, ptr b2 0), (4, ptr b4 0), (5, iV 0), (6, iV 0), (18, ptr b2 0), (22, iV (next + 1)), (24, .slice A n c), (30, .slice (some ⟨b30, 0, none⟩) 1 1)]) (hOf [(0, ⟨false, b, q, 0, encs EntE L, 0⟩), (2, ⟨true, b2, 0, 40, [(key).map u8V, [iV next, .slice A n c]].flatten, 0⟩), (4, ⟨true, b4, 0, 40, [(List.replicate 32 0#8).map u8V, [iV 0, .slice none 0 0]].flatten, 0⟩), (30, ⟨true, b30, 0, 96, encs EntE [mkEnt next psk], 0⟩)]) := by
     clear hG5_0 hG5_1 hG5_2 hG5_3 hG5_4 hG5_5 hG5_6 hG5_7 hG5_8 hG5_10 hG5_11 hG5_12 hG5_14 hG5_16 hG5_17 hG5_18 hG5_19 hG5_20 hG5_21 hG5_22 hG5_23 hG5_24
     refine hGo ?_
     refine At.bStep [1, 7, 15] (by kernel_rfl) (by simp) ?_
     refine ⟨?_, ?_, ?_⟩
     ·
      refine At.bSQ (some 19) (Q_loadN (k := 2) (j := 0) (cs := (key).map u8V) rfl rfl Try.underlying23 rfl sz23 rfl rfl rfl (seg_at (i := 0) rfl LN LN) LN) ?_
      exact At.into (hGi (hG5_9 b30)) rfl rfl
     ·
      refine At.bS false (by kernel_rfl) (S_callV (some 25) [(0, _)] [25] (vs := [_]) rfl en58 rfl (VN (by simp) rfl View.all V0) (by simp) (c_CloneEn (L := L) (A := A) (n := n) (c := c) (b := b) (q := q) LN hA OG) (by rintro _ _ ⟨A25, b25, c25, g25a, g25b, rfl, rfl⟩; rfl) ?_)
      rintro _ _ ⟨A25, b25, c25, g25a, g25b, rfl, rfl⟩
      exact At.into (hGi (hG5_13 A25 b25 c25 b30 g25a g25b)) rfl rfl
     ·
      refine At.bS false (by kernel_rfl) (S_alloc (some 7) 7 (zs := [(List.replicate 32 0#8).map u8V, [iV 0, .slice none 0 0]].flatten) rfl ze40 rfl (fun b7 => ?_))
      exact At.into (hGi (hG5_15 b30 b7)) rfl rfl
    have hG5_26 (b7 : Nat) : G 6 #[true, false, true, true, true, true, true, false, true, true, true, true, false, false, false, true, false] (frOf [(2, ptr b2 0), (4, ptr b4 0), (5, iV 0), (6, iV 0), (7, ptr b7 0), (18, ptr b2 0), (22, iV (next + 1)), (24, .slice A n c), (29, .agg ([[iV next], (psk).map u8V].flatten).toArray)]) (hOf [(0, ⟨false, b, q, 0, encs EntE L, 0⟩), (2, ⟨true, b2, 0, 40, [(key).map u8V, [iV next, .slice A n c]].flatten, 0⟩), (4, ⟨true, b4, 0, 40, [(List.replicate 32 0#8).map u8V, [iV 0, .slice none 0 0]].flatten, 0⟩), (7, ⟨true, b7, 0, 40, [(List.replicate 32 0#8).map u8V, [iV 0, .slice none 0 0]].flatten, 0⟩)]) := by
     clear hG5_0 hG5_1 hG5_2 hG5_3 hG5_4 hG5_5 hG5_6 hG5_7 hG5_8 hG5_9 hG5_11 hG5_12 hG5_13 hG5_16 hG5_17 hG5_18 hG5_19 hG5_20 hG5_21 hG5_22 hG5_23 hG5_24 hG5_25
     refine hGo ?_
     refine At.bStep [1, 7, 12] (by kernel_rfl) (by simp) ?_
     refine ⟨?_, ?_, ?_⟩
     ·
      refine At.bSQ (some 19) (Q_loadN (k := 2) (j := 0) (cs := (key).map u8V) rfl rfl Try.underlying23 rfl sz23 rfl rfl rfl (seg_at (i := 0) rfl LN LN) LN) ?_
      exact At.into (hGi (hG5_10 b7)) rfl rfl
     ·
      refine At.bS false (by kernel_rfl) (S_callV (some 25) [(0, _)] [25] (vs := [_]) rfl en58 rfl (VN (by simp) rfl View.all V0) (by simp) (c_CloneEn (L := L) (A := A) (n := n) (c := c) (b := b) (q := q) LN hA OG) (by rintro _ _ ⟨A25, b25, c25, g25a, g25b, rfl, rfl⟩; rfl) ?_)
      rintro _ _ ⟨A25, b25, c25, g25a, g25b, rfl, rfl⟩
      exact At.into (hGi (hG5_14 A25 b25 c25 b7 g25a g25b)) rfl rfl
     ·
      refine At.bS false (by kernel_rfl) (S_buildSliceE (some 30) 30 (cs := [[iV next], (psk).map u8V].flatten) rfl Try.underlying38 sz96 ze96 rfl rfl LN (by decide) (by decide) (fun b30 => ?_))
      refine At.row 30 (⟨true, b30, 0, 96, encs EntE [mkEnt next psk], 0⟩) rfl (ent_row LN) ?_
      exact At.into (hGi (hG5_15 b30 b7)) rfl rfl
    have hG5_27 (b30 : Nat) (b7 : Nat) : G 6 #[true, false, true, true, true, true, false, false, true, true, true, true, true, false, false, true, false] (frOf [(2, ptr b2 0), (4, ptr b4 0), (5, iV 0), (6, iV 0), (7, ptr b7 0), (18, ptr b2 0), (22, iV (next + 1)), (23, ptr b2 33), (30, .slice (some ⟨b30, 0, none⟩) 1 1)]) (hOf [(0, ⟨false, b, q, 0, encs EntE L, 0⟩), (2, ⟨true, b2, 0, 40, [(key).map u8V, [iV next, .slice A n c]].flatten, 0⟩), (4, ⟨true, b4, 0, 40, [(List.replicate 32 0#8).map u8V, [iV 0, .slice none 0 0]].flatten, 0⟩), (7, ⟨true, b7, 0, 40, [(List.replicate 32 0#8).map u8V, [iV 0, .slice none 0 0]].flatten, 0⟩), (30, ⟨true, b30, 0, 96, encs EntE [mkEnt next psk], 0⟩)]) := by
     clear hG5_0 hG5_1 hG5_2 hG5_3 hG5_4 hG5_5 hG5_6 hG5_7 hG5_8 hG5_9 hG5_10 hG5_12 hG5_13 hG5_14 hG5_16 hG5_17 hG5_18 hG5_19 hG5_20 hG5_21 hG5_22 hG5_23 hG5_24 hG5_25 hG5_26
     refine hGo ?_
     refine At.bStep [1, 6] (by kernel_rfl) (by simp) ?_
     refine ⟨?_, ?_⟩
     ·
      refine At.bSQ (some 19) (Q_loadN (k := 2) (j := 0) (cs := (key).map u8V) rfl rfl Try.underlying23 rfl sz23 rfl rfl rfl (seg_at (i := 0) rfl LN LN) LN) ?_
      exact At.into (hGi (hG5_11 b30 b7)) rfl rfl
     ·
      refine At.bSQ (some 24) (Q_loadO (k := 2) rfl rfl Try.underlying38 rfl rfl (seg_get (i := 1) (p := 1) rfl LN rfl)) ?_
      exact At.into (hGi (hG5_15 b30 b7)) rfl rfl
    have hG5_28 (A25 : Option Addr) (b25 c25 : Nat) (b30 : Nat) (b7 : Nat) (g25a : 0 < c25 → A25 = some ⟨b25, 0, none⟩) (g25b : L.length ≤ c25) : G 6 #[true, false, true, false, false, true, true, true, true, true, true, true, true, false, false, true, false] (frOf [(2, ptr b2 0), (4, ptr b4 0), (5, iV 0), (6, iV 0), (7, ptr b7 0), (18, ptr b2 0), (20, ptr b2 32), (25, .slice A25 L.length c25), (30, .slice (some ⟨b30, 0, none⟩) 1 1)]) (hOf [(0, ⟨false, b, q, 0, encs EntE L, 0⟩), (2, ⟨true, b2, 0, 40, [(key).map u8V, [iV next, .slice A n c]].flatten, 0⟩), (4, ⟨true, b4, 0, 40, [(List.replicate 32 0#8).map u8V, [iV 0, .slice none 0 0]].flatten, 0⟩), (7, ⟨true, b7, 0, 40, [(List.replicate 32 0#8).map u8V, [iV 0, .slice none 0 0]].flatten, 0⟩), (25, ⟨true, b25, 0, 96, encs EntE L, (c25 - (L).length) * 33⟩), (30, ⟨true, b30, 0, 96, encs EntE [mkEnt next psk], 0⟩)]) := by
     clear hG5_0 hG5_2 hG5_3 hG5_4 hG5_5 hG5_6 hG5_8 hG5_9 hG5_10 hG5_11 hG5_13 hG5_14 hG5_15 hG5_16 hG5_17 hG5_18 hG5_19 hG5_20 hG5_21 hG5_22 hG5_23 hG5_24 hG5_25 hG5_26 hG5_27
     refine hGo ?_
     refine At.bStep [1, 3, 13] (by kernel_rfl) (by simp) ?_
     refine ⟨?_, ?_, ?_⟩
     ·
      refine At.bSQ (some 19) (Q_loadN (k := 2) (j := 0) (cs := (key).map u8V) rfl rfl Try.underlying23 rfl sz23 rfl rfl rfl (seg_at (i := 0) rfl LN LN) LN) ?_
      exact At.into (hGi (hG5_12 A25 b25 c25 b30 b7 g25a g25b)) rfl rfl
     ·
      refine At.bSQ (some 21) (Q_loadO (k := 2) rfl rfl Try.underlying3 rfl rfl (seg_get (i := 1) (p := 0) rfl LN rfl)) ?_
      refine At.bP  4 (some 22) (P_add_i rfl rfl rfl (by omega)) (by kernel_rfl) (by kernel_rfl) ?_
      exact At.into (hGi (hG5_7 A25 b25 c25 b30 b7 g25a g25b)) rfl rfl
     ·
      refine At.bS true (by kernel_rfl) (S_appendE (en := EntE) (some 31) 25 ((L ++ [mkEnt next psk])) (l := L) (L := [mkEnt next psk]) (m := 1) (sz := 33) rfl rfl Try.underlying38 Try.underlying38 (.inr ⟨_, rfl⟩) sz96 by96 ze96 rfl rfl (fun h => ⟨g25a h, rfl⟩) LN OG OG (SrcE.all (en := EntE) (k := 30) (L := [mkEnt next psk]) rfl rfl (fun _ => rfl) (fun _ => ⟨rfl, rfl, rfl⟩) LN) OG OG rfl LN ?_)
      intro A31 b31 c31 g31a g31b
      refine At.bQ  1 (some 19) (Q_loadN (k := 2) (j := 0) (cs := (key).map u8V) rfl rfl Try.underlying23 rfl sz23 rfl rfl rfl (seg_at (i := 0) rfl LN LN) LN) (by kernel_rfl) (by kernel_rfl) ?_
      refine At.bQ  3 (some 21) (Q_loadO (k := 2) rfl rfl Try.underlying3 rfl rfl (seg_get (i := 1) (p := 0) rfl LN rfl)) (by kernel_rfl) (by kernel_rfl) ?_
      refine At.bP  4 (some 22) (P_add_i rfl rfl rfl (by omega)) (by kernel_rfl) (by kernel_rfl) ?_
      refine At.bP  14 (some 32) (P_build_struct (cs := ([(key).map u8V, [iV (next + 1), .slice A31 ((L ++ [mkEnt next psk]).length) c31]].flatten).toArray) (parts := _) (vs := [(0, _), (1, _), (2, _)]) rfl Try.underlying40 ze40 pl40 rfl (by show Instr.fill _ ([(List.replicate 32 0#8).map u8V, [iV 0], [.slice none 0 0]].flatten).toArray _ = _; refine fill_seg (k := 0) (vs := (key).map u8V) rfl rfl LN rfl LN LN ?_; refine fill_seg (k := 1) (vs := [iV (next + 1)]) rfl rfl LN rfl LN LN ?_; refine fill_seg (k := 2) (vs := [.slice A31 ((L ++ [mkEnt next psk]).length) c31]) rfl rfl LN rfl LN LN ?_; exact fill_end (by simp))) (by kernel_rfl) (by kernel_rfl) ?_
      exact At.into (hGi (hG5_1 A25 b25 c25 b30 A31 b31 c31 b7 g25a g25b g31a g31b)) rfl rfl
    have hG5_29 (A25 : Option Addr) (b25 c25 : Nat) (g25a : 0 < c25 → A25 = some ⟨b25, 0, none⟩) (g25b : L.length ≤ c25) : G 7 #[true, true, true, true, true, true, true, true, true, true, false, false, false, false, false, false, false] (frOf [(2, ptr b2 0), (3, ptr b3 0), (4, ptr b4 0), (5, iV 0), (6, iV 0), (19, aggK key), (22, iV (next + 1)), (25, .slice A25 L.length c25), (27, iV next)]) (hOf [(0, ⟨false, b, q, 0, encs EntE L, 0⟩), (2, ⟨true, b2, 0, 40, [(key).map u8V, [iV next, .slice A n c]].flatten, 0⟩), (3, ⟨true, b3, 0, 23, (psk).map u8V, 0⟩), (4, ⟨true, b4, 0, 40, [(List.replicate 32 0#8).map u8V, [iV 0, .slice none 0 0]].flatten, 0⟩), (25, ⟨true, b25, 0, 96, encs EntE L, (c25 - (L).length) * 33⟩)]) := by
     clear hG5_0 hG5_1 hG5_2 hG5_3 hG5_4 hG5_5 hG5_6 hG5_7 hG5_9 hG5_10 hG5_11 hG5_12 hG5_13 hG5_14 hG5_15 hG5_17 hG5_18 hG5_19 hG5_20 hG5_21 hG5_22 hG5_23 hG5_24 hG5_25 hG5_26 hG5_27 hG5_28
     refine hGo ?_
     refine At.bStep [10, 15] (by kernel_rfl) (by simp) ?_
     refine ⟨?_, ?_⟩
     ·
      refine At.bSQ (some 28) (Q_loadA (k := 3) rfl rfl Try.underlying23 rfl sz23 LN rfl) ?_
      refine At.bP  11 (some 29) (P_build_struct (cs := ([[iV next], (psk).map u8V].flatten).toArray) (parts := _) (vs := [(0, _), (1, _)]) rfl Try.underlying96 ze96 pl96 rfl (by show Instr.fill _ ([[iV 0], (List.replicate 32 0#8).map u8V].flatten).toArray _ = _; refine fill_seg (k := 0) (vs := [iV next]) rfl rfl LN rfl LN LN ?_; refine fill_seg (k := 1) (vs := (psk).map u8V) rfl rfl LN rfl LN LN ?_; exact fill_end (by simp))) (by kernel_rfl) (by kernel_rfl) ?_
      exact At.into (hGi (hG5_8 A25 b25 c25 g25a g25b)) rfl rfl
     ·
      refine At.bS false (by kernel_rfl) (S_alloc (some 7) 7 (zs := [(List.replicate 32 0#8).map u8V, [iV 0, .slice none 0 0]].flatten) rfl ze40 rfl (fun b7 => ?_))
      exact At.into (hGi (hG5_16 A25 b25 c25 b7 g25a g25b)) rfl rfl
    have hG5_30 (A25 : Option Addr) (b25 c25 : Nat) (g25a : 0 < c25 → A25 = some ⟨b25, 0, none⟩) (g25b : L.length ≤ c25) : G 7 #[true, true, true, true, true, true, true, true, true, false, true, false, false, false, false, false, false] (frOf [(2, ptr b2 0), (4, ptr b4 0), (5, iV 0), (6, iV 0), (19, aggK key), (22, iV (next + 1)), (25, .slice A25 L.length c25), (26, ptr b2 32), (28, aggK psk)]) (hOf [(0, ⟨false, b, q, 0, encs EntE L, 0⟩), (2, ⟨true, b2, 0, 40, [(key).map u8V, [iV next, .slice A n c]].flatten, 0⟩), (4, ⟨true, b4, 0, 40, [(List.replicate 32 0#8).map u8V, [iV 0, .slice none 0 0]].flatten, 0⟩), (25, ⟨true, b25, 0, 96, encs EntE L, (c25 - (L).length) * 33⟩)]) := by
     clear hG5_0 hG5_1 hG5_2 hG5_3 hG5_4 hG5_5 hG5_6 hG5_7 hG5_9 hG5_10 hG5_11 hG5_12 hG5_13 hG5_14 hG5_15 hG5_16 hG5_18 hG5_19 hG5_20 hG5_21 hG5_22 hG5_23 hG5_24 hG5_25 hG5_26 hG5_27 hG5_28 hG5_29
     refine hGo ?_
     refine At.bStep [9, 15] (by kernel_rfl) (by simp) ?_
     refine ⟨?_, ?_⟩
     ·
      refine At.bSQ (some 27) (Q_loadO (k := 2) rfl rfl Try.underlying3 rfl rfl (seg_get (i := 1) (p := 0) rfl LN rfl)) ?_
      refine At.bP  11 (some 29) (P_build_struct (cs := ([[iV next], (psk).map u8V].flatten).toArray) (parts := _) (vs := [(0, _), (1, _)]) rfl Try.underlying96 ze96 pl96 rfl (by show Instr.fill _ ([[iV 0], (List.replicate 32 0#8).map u8V].flatten).toArray _ = _; refine fill_seg (k := 0) (vs := [iV next]) rfl rfl LN rfl LN LN ?_; refine fill_seg (k := 1) (vs := (psk).map u8V) rfl rfl LN rfl LN LN ?_; exact fill_end (by simp))) (by kernel_rfl) (by kernel_rfl) ?_
      exact At.into (hGi (hG5_8 A25 b25 c25 g25a g25b)) rfl rfl
     ·
      refine At.bS false (by kernel_rfl) (S_alloc (some 7) 7 (zs := [(List.replicate 32 0#8).map u8V, [iV 0, .slice none 0 0]].flatten) rfl ze40 rfl (fun b7 => ?_))
      exact At.into (hGi (hG5_17 A25 b25 c25 b7 g25a g25b)) rfl rfl
    have hG5_31 (A25 : Option Addr) (b25 c25 : Nat) (b7 : Nat) (g25a : 0 < c25 → A25 = some ⟨b25, 0, none⟩) (g25b : L.length ≤ c25) : G 7 #[true, true, true, true, true, true, true, true, true, false, false, false, false, false, false, true, false] (frOf [(2, ptr b2 0), (3, ptr b3 0), (4, ptr b4 0), (5, iV 0), (6, iV 0), (7, ptr b7 0), (19, aggK key), (22, iV (next + 1)), (25, .slice A25 L.length c25), (26, ptr b2 32)]) (hOf [(0, ⟨false, b, q, 0, encs EntE L, 0⟩), (2, ⟨true, b2, 0, 40, [(key).map u8V, [iV next, .slice A n c]].flatten, 0⟩), (3, ⟨true, b3, 0, 23, (psk).map u8V, 0⟩), (4, ⟨true, b4, 0, 40, [(List.replicate 32 0#8).map u8V, [iV 0, .slice none 0 0]].flatten, 0⟩), (7, ⟨true, b7, 0, 40, [(List.replicate 32 0#8).map u8V, [iV 0, .slice none 0 0]].flatten, 0⟩), (25, ⟨true, b25, 0, 96, encs EntE L, (c25 - (L).length) * 33⟩)]) := by
     clear hG5_0 hG5_1 hG5_2 hG5_3 hG5_4 hG5_5 hG5_6 hG5_7 hG5_8 hG5_9 hG5_10 hG5_11 hG5_12 hG5_13 hG5_14 hG5_15 hG5_18 hG5_19 hG5_20 hG5_21 hG5_22 hG5_23 hG5_24 hG5_25 hG5_26 hG5_27 hG5_28 hG5_29 hG5_30
     refine hGo ?_
     refine At.bStep [9, 10] (by kernel_rfl) (by simp) ?_
     refine ⟨?_, ?_⟩
     ·
      refine At.bSQ (some 27) (Q_loadO (k := 2) rfl rfl Try.underlying3 rfl rfl (seg_get (i := 1) (p := 0) rfl LN rfl)) ?_
      exact At.into (hGi (hG5_16 A25 b25 c25 b7 g25a g25b)) rfl rfl
     ·
      refine At.bSQ (some 28) (Q_loadA (k := 3) rfl rfl Try.underlying23 rfl sz23 LN rfl) ?_
      exact At.into (hGi (hG5_17 A25 b25 c25 b7 g25a g25b)) rfl rfl
    have hG5_32 (b7 : Nat) : G 7 #[true, true, true, true, true, true, true, false, true, true, false, false, false, false, false, true, false] (frOf [(2, ptr b2 0), (3, ptr b3 0), (4, ptr b4 0), (5, iV 0), (6, iV 0), (7, ptr b7 0), (19, aggK key), (22, iV (next + 1)), (24, .slice A n c), (27, iV next)]) (hOf [(0, ⟨false, b, q, 0, encs EntE L, 0⟩), (2, ⟨true, b2, 0, 40, [(key).map u8V, [iV next, .slice A n c]].flatten, 0⟩), (3, ⟨true, b3, 0, 23, (psk).map u8V, 0⟩), (4, ⟨true, b4, 0, 40, [(List.replicate 32 0#8).map u8V, [iV 0, .slice none 0 0]].flatten, 0⟩), (7, ⟨true, b7, 0, 40, [(List.replicate 32 0#8).map u8V, [iV 0, .slice none 0 0]].flatten, 0⟩)]) := by
     clear hG5_0 hG5_1 hG5_2 hG5_3 hG5_4 hG5_5 hG5_6 hG5_7 hG5_8 hG5_9 hG5_11 hG5_12 hG5_13 hG5_14 hG5_15 hG5_17 hG5_18 hG5_19 hG5_20 hG5_21 hG5_22 hG5_23 hG5_24 hG5_25 hG5_26 hG5_27 hG5_28 hG5_29 hG5_30 hG5_31
     refine hGo ?_
     refine At.bStep [7, 10] (by kernel_rfl) (by simp) ?_
     refine ⟨?_, ?_⟩
     ·
      refine At.bS false (by kernel_rfl) (S_callV (some 25) [(0, _)] [25] (vs := [_]) rfl en58 rfl (VN (by simp) rfl View.all V0) (by simp) (c_CloneEn (L := L) (A := A) (n := n) (c := c) (b := b) (q := q) LN hA OG) (by rintro _ _ ⟨A25, b25, c25, g25a, g25b, rfl, rfl⟩; rfl) ?_)
      rintro _ _ ⟨A25, b25, c25, g25a, g25b, rfl, rfl⟩
      exact At.into (hGi (hG5_16 A25 b25 c25 b7 g25a g25b)) rfl rfl
     ·
      refine At.bSQ (some 28) (Q_loadA (k := 3) rfl rfl Try.underlying23 rfl sz23 LN rfl) ?_
      refine At.bP  11 (some 29) (P_build_struct (cs := ([[iV next], (psk).map u8V].flatten).toArray) (parts := _) (vs := [(0, _), (1, _)]) rfl Try.underlying96 ze96 pl96 rfl (by show Instr.fill _ ([[iV 0], (List.replicate 32 0#8).map u8V].flatten).toArray _ = _; refine fill_seg (k := 0) (vs := [iV next]) rfl rfl LN rfl LN LN ?_; refine fill_seg (k := 1) (vs := (psk).map u8V) rfl rfl LN rfl LN LN ?_; exact fill_end (by simp))) (by kernel_rfl) (by kernel_rfl) ?_
      exact At.into (hGi (hG5_10 b7)) rfl rfl
    have hG5_33 (b7 : Nat) : G 7 #[true, true, true, true, true, true, true, false, true, false, true, false, false, false, false, true, false] (frOf [(2, ptr b2 0), (4, ptr b4 0), (5, iV 0), (6, iV 0), (7, ptr b7 0), (19, aggK key), (22, iV (next + 1)), (24, .slice A n c), (26, ptr b2 32), (28, aggK psk)]) (hOf [(0, ⟨false, b, q, 0, encs EntE L, 0⟩), (2, ⟨true, b2, 0, 40, [(key).map u8V, [iV next, .slice A n c]].flatten, 0⟩), (4, ⟨true, b4, 0, 40, [(List.replicate 32 0#8).map u8V, [iV 0, .slice none 0 0]].flatten, 0⟩), (7, ⟨true, b7, 0, 40, [(List.replicate 32 0#8).map u8V, [iV 0, .slice none 0 0]].flatten, 0⟩)]) := by
     clear hG5_0 hG5_1 hG5_2 hG5_3 hG5_4 hG5_5 hG5_6 hG5_7 hG5_8 hG5_9 hG5_11 hG5_12 hG5_13 hG5_14 hG5_15 hG5_16 hG5_18 hG5_19 hG5_20 hG5_21 hG5_22 hG5_23 hG5_24 hG5_25 hG5_26 hG5_27 hG5_28 hG5_29 hG5_30 hG5_31 hG5_32
     refine hGo ?_
     refine At.bStep [7, 9] (by kernel_rfl) (by simp) ?_
     refine ⟨?_, ?_⟩
     ·
      refine At.bS false (by kernel_rfl) (S_callV (some 25) [(0, _)] [25] (vs := [_]) rfl en58 rfl (VN (by simp) rfl View.all V0) (by simp) (c_CloneEn (L := L) (A := A) (n := n) (c := c) (b := b) (q := q) LN hA OG) (by rintro _ _ ⟨A25, b25, c25, g25a, g25b, rfl, rfl⟩; rfl) ?_)
      rintro _ _ ⟨A25, b25, c25, g25a, g25b, rfl, rfl⟩
      exact At.into (hGi (hG5_17 A25 b25 c25 b7 g25a g25b)) rfl rfl
     ·
      refine At.bSQ (some 27) (Q_loadO (k := 2) rfl rfl Try.underlying3 rfl rfl (seg_get (i := 1) (p := 0) rfl LN rfl)) ?_
      refine At.bP  11 (some 29) (P_build_struct (cs := ([[iV next], (psk).map u8V].flatten).toArray) (parts := _) (vs := [(0, _), (1, _)]) rfl Try.underlying96 ze96 pl96 rfl (by show Instr.fill _ ([[iV 0], (List.replicate 32 0#8).map u8V].flatten).toArray _ = _; refine fill_seg (k := 0) (vs := [iV next]) rfl rfl LN rfl LN LN ?_; refine fill_seg (k := 1) (vs := (psk).map u8V) rfl rfl LN rfl LN LN ?_; exact fill_end (by simp))) (by kernel_rfl) (by kernel_rfl) ?_
      exact At.into (hGi (hG5_10 b7)) rfl rfl
    have hG5_34  : G 7 #[true, true, true, true, true, true, false, false, true, true, true, true, false, false, false, false, false] (frOf [(2, ptr b2 0), (4, ptr b4 0), (5, iV 0), (6, iV 0), (19, aggK key), (22, iV (next + 1)), (23, ptr b2 33), (29, .agg ([[iV next], (psk).map u8V].flatten).toArray)]) (hOf [(0, ⟨false, b, q, 0, encs EntE L, 0⟩), (2, ⟨true, b2, 0, 40, [(key).map u8V, [iV next, .slice A n c]].flatten, 0⟩), (4, ⟨true, b4, 0, 40, [(List.replicate 32 0#8).map u8V, [iV 0, .slice none 0 0]].flatten, 0⟩)]) := by
     clear hG5_0 hG5_1 hG5_2 hG5_3 hG5_4 hG5_5 hG5_6 hG5_7 hG5_8 hG5_9 hG5_10 hG5_11 hG5_12 hG5_13 hG5_14 hG5_15 hG5_16 hG5_17 hG5_21 hG5_22 hG5_23 hG5_24 hG5_25 hG5_26 hG5_27 hG5_28 hG5_29 hG5_30 hG5_31 hG5_32 hG5_33
     refine hGo ?_
     refine At.bStep [6, 12, 15] (by kernel_rfl) (by simp) ?_
     refine ⟨?_, ?_, ?_⟩
     ·
      refine At.bSQ (some 24) (Q_loadO (k := 2) rfl rfl Try.underlying38 rfl rfl (seg_get (i := 1) (p := 1) rfl LN rfl)) ?_
      exact At.into (hGi (hG5_18 )) rfl rfl
     ·
      refine At.bS false (by kernel_rfl) (S_buildSliceE (some 30) 30 (cs := [[iV next], (psk).map u8V].flatten) rfl Try.underlying38 sz96 ze96 rfl rfl LN (by decide) (by decide) (fun b30 => ?_))
      refine At.row 30 (⟨true, b30, 0, 96, encs EntE [mkEnt next psk], 0⟩) rfl (ent_row LN) ?_
      exact At.into (hGi (hG5_19 b30)) rfl rfl
     ·
      refine At.bS false (by kernel_rfl) (S_alloc (some 7) 7 (zs := [(List.replicate 32 0#8).map u8V, [iV 0, .slice none 0 0]].flatten) rfl ze40 rfl (fun b7 => ?_))
      exact At.into (hGi (hG5_20 b7)) rfl rfl
    have hG5_35 (A25 : Option Addr) (b25 c25 : Nat) (g25a : 0 < c25 → A25 = some ⟨b25, 0, none⟩) (g25b : L.length ≤ c25) : G 7 #[true, true, true, false, false, true, true, true, true, true, true, true, false, false, false, false, false] (frOf [(2, ptr b2 0), (4, ptr b4 0), (5, iV 0), (6, iV 0), (19, aggK key), (20, ptr b2 32), (25, .slice A25 L.length c25), (29, .agg ([[iV next], (psk).map u8V].flatten).toArray)]) (hOf [(0, ⟨false, b, q, 0, encs EntE L, 0⟩), (2, ⟨true, b2, 0, 40, [(key).map u8V, [iV next, .slice A n c]].flatten, 0⟩), (4, ⟨true, b4, 0, 40, [(List.replicate 32 0#8).map u8V, [iV 0, .slice none 0 0]].flatten, 0⟩), (25, ⟨true, b25, 0, 96, encs EntE L, (c25 - (L).length) * 33⟩)]) := by
     clear hG5_0 hG5_1 hG5_2 hG5_3 hG5_4 hG5_5 hG5_6 hG5_7 hG5_9 hG5_10 hG5_11 hG5_12 hG5_13 hG5_14 hG5_15 hG5_16 hG5_17 hG5_18 hG5_19 hG5_20 hG5_23 hG5_24 hG5_25 hG5_26 hG5_27 hG5_28 hG5_29 hG5_30 hG5_31 hG5_32 hG5_33 hG5_34
     refine hGo ?_
     refine At.bStep [3, 12, 15] (by kernel_rfl) (by simp) ?_
     refine ⟨?_, ?_, ?_⟩
     ·
      refine At.bSQ (some 21) (Q_loadO (k := 2) rfl rfl Try.underlying3 rfl rfl (seg_get (i := 1) (p := 0) rfl LN rfl)) ?_
      refine At.bP  4 (some 22) (P_add_i rfl rfl rfl (by omega)) (by kernel_rfl) (by kernel_rfl) ?_
      exact At.into (hGi (hG5_8 A25 b25 c25 g25a g25b)) rfl rfl
     ·
      refine At.bS false (by kernel_rfl) (S_buildSliceE (some 30) 30 (cs := [[iV next], (psk).map u8V].flatten) rfl Try.underlying38 sz96 ze96 rfl rfl LN (by decide) (by decide) (fun b30 => ?_))
      refine At.row 30 (⟨true, b30, 0, 96, encs EntE [mkEnt next psk], 0⟩) rfl (ent_row LN) ?_
      exact At.into (hGi (hG5_21 A25 b25 c25 b30 g25a g25b)) rfl rfl
     ·
      refine At.bS false (by kernel_rfl) (S_alloc (some 7) 7 (zs := [(List.replicate 32 0#8).map u8V, [iV 0, .slice none 0 0]].flatten) rfl ze40 rfl (fun b7 => ?_))
      exact At.into (hGi (hG5_22 A25 b25 c25 b7 g25a g25b)) rfl rfl
    have hG5_36 (b30 : Nat) : G 7 #[true, true, true, false, false, true, true, false, true, true, true, true, true, false, false, false, false] (frOf [(2, ptr b2 0), (4, ptr b4 0), (5, iV 0), (6, iV 0), (19, aggK key), (20, ptr b2 32), (24, .slice A n c), (30, .slice (some ⟨b30, 0, none⟩) 1 1)]) (hOf [(0, ⟨false, b, q, 0, encs EntE L, 0⟩), (2, ⟨true, b2, 0, 40, [(key).map u8V, [iV next, .slice A n c]].flatten, 0⟩), (4, ⟨true, b4, 0, 40, [(List.replicate 32 0#8).map u8V, [iV 0, .slice none 0 0]].flatten, 0⟩), (30, ⟨true, b30, 0, 96, encs EntE [mkEnt next psk], 0⟩)]) := by
     clear hG5_0 hG5_1 hG5_2 hG5_3 hG5_4 hG5_5 hG5_6 hG5_7 hG5_8 hG5_10 hG5_11 hG5_12 hG5_13 hG5_14 hG5_15 hG5_16 hG5_17 hG5_18 hG5_19 hG5_20 hG5_22 hG5_24 hG5_25 hG5_26 hG5_27 hG5_28 hG5_29 hG5_30 hG5_31 hG5_32 hG5_33 hG5_34 hG5_35
     refine hGo ?_
     refine At.bStep [3, 7, 15] (by kernel_rfl) (by simp) ?_
     refine ⟨?_, ?_, ?_⟩
     ·
      refine At.bSQ (some 21) (Q_loadO (k := 2) rfl rfl Try.underlying3 rfl rfl (seg_get (i := 1) (p := 0) rfl LN rfl)) ?_
      refine At.bP  4 (some 22) (P_add_i rfl rfl rfl (by omega)) (by kernel_rfl) (by kernel_rfl) ?_
      exact At.into (hGi (hG5_9 b30)) rfl rfl
     ·
      refine At.bS false (by kernel_rfl) (S_callV (some 25) [(0, _)] [25] (vs := [_]) rfl en58 rfl (VN (by simp) rfl View.all V0) (by simp) (c_CloneEn (L := L) (A := A) (n := n) (c := c) (b := b) (q := q) LN hA OG) (by rintro _ _ ⟨A25, b25, c25, g25a, g25b, rfl, rfl⟩; rfl) ?_)
      rintro _ _ ⟨A25, b25, c25, g25a, g25b, rfl, rfl⟩
      exact At.into (hGi (hG5_21 A25 b25 c25 b30 g25a g25b)) rfl rfl
     ·
      refine At.bS false (by kernel_rfl) (S_alloc (some 7) 7 (zs := [(List.replicate 32 0#8).map u8V, [iV 0, .slice none 0 0]].flatten) rfl ze40 rfl (fun b7 => ?_))
      exact At.into (hGi (hG5_23 b30 b7)) rfl rfl
    have hG5_37 (b7 : Nat) : G 7 #[true, true, true, false, false, true, true, false, true, true, true, true, false, false, false, true, false] (frOf [(2, ptr b2 0), (4, ptr b4 0), (5, iV 0), (6, iV 0), (7, ptr b7 0), (19, aggK key), (20, ptr b2 32), (24, .slice A n c), (29, .agg ([[iV next], (psk).map u8V].flatten).toArray)]) (hOf [(0, ⟨false, b, q, 0, encs EntE L, 0⟩), (2, ⟨true, b2, 0, 40, [(key).map u8V, [iV next, .slice A n c]].flatten, 0⟩), (4, ⟨true, b4, 0, 40, [(List.replicate 32 0#8).map u8V, [iV 0, .slice none 0 0]].flatten, 0⟩), (7, ⟨true, b7, 0, 40, [(List.replicate 32 0#8).map u8V, [iV 0, .slice none 0 0]].flatten, 0⟩)]) := by
     clear hG5_0 hG5_1 hG5_2 hG5_3 hG5_4 hG5_5 hG5_6 hG5_7 hG5_8 hG5_9 hG5_11 hG5_12 hG5_13 hG5_14 hG5_15 hG5_16 hG5_17 hG5_18 hG5_19 hG5_20 hG5_21 hG5_24 hG5_25 hG5_26 hG5_27 hG5_28 hG5_29 hG5_30 hG5_31 hG5_32 hG5_33 hG5_34 hG5_35 hG5_36
     refine hGo ?_
     refine At.bStep [3, 7, 12] (by kernel_rfl) (by simp) ?_
     refine ⟨?_, ?_, ?_⟩
     ·
      refine At.bSQ (some 21) (Q_loadO (k := 2) rfl rfl Try.underlying3 rfl rfl (seg_get (i := 1) (p := 0) rfl LN rfl)) ?_
      refine At.bP  4 (some 22) (P_add_i rfl rfl rfl (by omega)) (by kernel_rfl) (by kernel_rfl) ?_
      exact At.into (hGi (hG5_10 b7)) rfl rfl
     ·
      refine At.bS false (by kernel_rfl) (S_callV (some 25) [(0, _)] [25] (vs := [_]) rfl en58 rfl (VN (by simp) rfl View.all V0) (by simp) (c_CloneEn (L := L) (A := A) (n := n) (c := c) (b := b) (q := q) LN hA OG) (by rintro _ _ ⟨A25, b25, c25, g25a, g25b, rfl, rfl⟩; rfl) ?_)
      rintro _ _ ⟨A25, b25, c25, g25a, g25b, rfl, rfl⟩
      exact At.into (hGi (hG5_22 A25 b25 c25 b7 g25a g25b)) rfl rfl
     ·
      refine At.bS false (by kernel_rfl) (S_buildSliceE (some 30) 30 (cs := [[iV next], (psk).map u8V].flatten) rfl Try.underlying38 sz96 ze96 rfl rfl LN (by decide) (by decide) (fun b30 => ?_))
      refine At.row 30 (⟨true, b30, 0, 96, encs EntE [mkEnt next psk], 0⟩) rfl (ent_row LN) ?_
      exact At.into (hGi (hG5_23 b30 b7)) rfl rfl
    have hG5_38 (b30 : Nat) (b7 : Nat) : G 7 #[true, true, true, false, false, true, false, false, true, true, true, true, true, false, false, true, false] (frOf [(2, ptr b2 0), (4, ptr b4 0), (5, iV 0), (6, iV 0), (7, ptr b7 0), (19, aggK key), (20, ptr b2 32), (23, ptr b2 33), (30, .slice (some ⟨b30, 0, none⟩) 1 1)]) (hOf [(0, ⟨false, b, q, 0, encs EntE L, 0⟩), (2, ⟨true, b2, 0, 40, [(key).map u8V, [iV next, .slice A n c]].flatten, 0⟩), (4, ⟨true, b4, 0, 40, [(List.replicate 32 0#8).map u8V, [iV 0, .slice none 0 0]].flatten, 0⟩), (7, ⟨true, b7, 0, 40, [(List.replicate 32 0#8).map u8V, [iV 0, .slice none 0 0]].flatten, 0⟩), (30, ⟨true, b30, 0, 96, encs EntE [mkEnt next psk], 0⟩)]) := by
     clear hG5_0 hG5_1 hG5_2 hG5_3 hG5_4 hG5_5 hG5_6 hG5_7 hG5_8 hG5_9 hG5_10 hG5_12 hG5_13 hG5_14 hG5_15 hG5_16 hG5_17 hG5_18 hG5_19 hG5_20 hG5_21 hG5_22 hG5_24 hG5_25 hG5_26 hG5_27 hG5_28 hG5_29 hG5_30 hG5_31 hG5_32 hG5_33 hG5_34 hG5_35 hG5_36 hG5_37
     refine hGo ?_
     refine At.bStep [3, 6] (by kernel_rfl) (by simp) ?_
     refine ⟨?_, ?_⟩
     ·
      refine At.bSQ (some 21) (Q_loadO (k := 2) rfl rfl Try.underlying3 rfl rfl (seg_get (i := 1) (p := 0) rfl LN rfl)) ?_
      refine At.bP  4 (some 22) (P_add_i rfl rfl rfl (by omega)) (by kernel_rfl) (by kernel_rfl) ?_
      exact At.into (hGi (hG5_11 b30 b7)) rfl rfl
     ·
      refine At.bSQ (some 24) (Q_loadO (k := 2) rfl rfl Try.underlying38 rfl rfl (seg_get (i := 1) (p := 1) rfl LN rfl)) ?_
      exact At.into (hGi (hG5_23 b30 b7)) rfl rfl
    have hG5_39 (A25 : Option Addr) (b25 c25 : Nat) (b7 : Nat) (g25a : 0 < c25 → A25 = some ⟨b25, 0, none⟩) (g25b : L.length ≤ c25) : G 7 #[true, false, true, true, true, true, true, true, true, true, false, false, false, false, false, true, false] (frOf [(2, ptr b2 0), (3, ptr b3 0), (4, ptr b4 0), (5, iV 0), (6, iV 0), (7, ptr b7 0), (18, ptr b2 0), (22, iV (next + 1)), (25, .slice A25 L.length c25), (27, iV next)]) (hOf [(0, ⟨false, b, q, 0, encs EntE L, 0⟩), (2, ⟨true, b2, 0, 40, [(key).map u8V, [iV next, .slice A n c]].flatten, 0⟩), (3, ⟨true, b3, 0, 23, (psk).map u8V, 0⟩), (4, ⟨true, b4, 0, 40, [(List.replicate 32 0#8).map u8V, [iV 0, .slice none 0 0]].flatten, 0⟩), (7, ⟨true, b7, 0, 40, [(List.replicate 32 0#8).map u8V, [iV 0, .slice none 0 0]].flatten, 0⟩), (25, ⟨true, b25, 0, 96, encs EntE L, (c25 - (L).length) * 33⟩)]) := by
     clear hG5_0 hG5_1 hG5_2 hG5_3 hG5_4 hG5_5 hG5_6 hG5_7 hG5_8 hG5_9 hG5_10 hG5_11 hG5_12 hG5_13 hG5_15 hG5_17 hG5_18 hG5_19 hG5_20 hG5_21 hG5_22 hG5_23 hG5_24 hG5_25 hG5_26 hG5_27 hG5_28 hG5_29 hG5_30 hG5_31 hG5_32 hG5_33 hG5_34 hG5_35 hG5_36 hG5_37 hG5_38
     refine hGo ?_
     refine At.bStep [1, 10] (by kernel_rfl) (by simp) ?_
     refine ⟨?_, ?_⟩
     ·
      refine At.bSQ (some 19) (Q_loadN (k := 2) (j := 0) (cs := (key).map u8V) rfl rfl Try.underlying23 rfl sz23 rfl rfl rfl (seg_at (i := 0) rfl LN LN) LN) ?_
      exact At.into (hGi (hG5_16 A25 b25 c25 b7 g25a g25b)) rfl rfl
     ·
      refine At.bSQ (some 28) (Q_loadA (k := 3) rfl rfl Try.underlying23 rfl sz23 LN rfl) ?_
      refine At.bP  11 (some 29) (P_build_struct (cs := ([[iV next], (psk).map u8V].flatten).toArray) (parts := _) (vs := [(0, _), (1, _)]) rfl Try.underlying96 ze96 pl96 rfl (by show Instr.fill _ ([[iV 0], (List.replicate 32 0#8).map u8V].flatten).toArray _ = _; refine fill_seg (k := 0) (vs := [iV next]) rfl rfl LN rfl LN LN ?_; refine fill_seg (k := 1) (vs := (psk).map u8V) rfl rfl LN rfl LN LN ?_; exact fill_end (by simp))) (by kernel_rfl) (by kernel_rfl) ?_
      exact At.into (hGi (hG5_14 A25 b25 c25 b7 g25a g25b)) rfl rfl
    have hG5_40 (A25 : Option Addr) (b25 c25 : Nat) (b7 : Nat) (g25a : 0 < c25 → A25 = some ⟨b25, 0, none⟩) (g25b : L.length ≤ c25) : G 7 #[true, false, true, true, true, true, true, true, true, false, true, false, false, false, false, true, false] (frOf [(2, ptr b2 0), (4, ptr b4 0), (5, iV 0), (6, iV 0), (7, ptr b7 0), (18, ptr b2 0), (22, iV (next + 1)), (25, .slice A25 L.length c25), (26, ptr b2 32), (28, aggK psk)]) (hOf [(0, ⟨false, b, q, 0, encs EntE L, 0⟩), (2, ⟨true, b2, 0, 40, [(key).map u8V, [iV next, .slice A n c]].flatten, 0⟩), (4, ⟨true, b4, 0, 40, [(List.replicate 32 0#8).map u8V, [iV 0, .slice none 0 0]].flatten, 0⟩), (7, ⟨true, b7, 0, 40, [(List.replicate 32 0#8).map u8V, [iV 0, .slice none 0 0]].flatten, 0⟩), (25, ⟨true, b25, 0, 96, encs EntE L, (c25 - (L).length) * 33⟩)]) := by
     clear hG5_0 hG5_1 hG5_2 hG5_3 hG5_4 hG5_5 hG5_6 hG5_7 hG5_8 hG5_9 hG5_10 hG5_11 hG5_12 hG5_13 hG5_15 hG5_16 hG5_18 hG5_19 hG5_20 hG5_21 hG5_22 hG5_23 hG5_24 hG5_25 hG5_26 hG5_27 hG5_28 hG5_29 hG5_30 hG5_31 hG5_32 hG5_33 hG5_34 hG5_35 hG5_36 hG5_37 hG5_38 hG5_39
     refine hGo ?_
     refine At.bStep [1, 9] (by kernel_rfl) (by simp) ?_
     refine ⟨?_, ?_⟩
     ·
      refine At.bSQ (some 19) (Q_loadN (k := 2) (j := 0) (cs := (key).map u8V) rfl rfl Try.underlying23 rfl sz23 rfl rfl rfl (seg_at (i := 0) rfl LN LN) LN) ?_
      exact At.into (hGi (hG5_17 A25 b25 c25 b7 g25a g25b)) rfl rfl
     ·
      refine At.bSQ (some 27) (Q_loadO (k := 2) rfl rfl Try.underlying3 rfl rfl (seg_get (i := 1) (p := 0) rfl LN rfl)) ?_
      refine At.bP  11 (some 29) (P_build_struct (cs := ([[iV next], (psk).map u8V].flatten).toArray) (parts := _) (vs := [(0, _), (1, _)]) rfl Try.underlying96 ze96 pl96 rfl (by show Instr.fill _ ([[iV 0], (List.replicate 32 0#8).map u8V].flatten).toArray _ = _; refine fill_seg (k := 0) (vs := [iV next]) rfl rfl LN rfl LN LN ?_; refine fill_seg (k := 1) (vs := (psk).map u8V) rfl rfl LN rfl LN LN ?_; exact fill_end (by simp))) (by kernel_rfl) (by kernel_rfl) ?_
      exact At.into (hGi (hG5_14 A25 b25 c25 b7 g25a g25b)) rfl rfl
    have hG5_41  : G 7 #[true, false, true, true, true, true, true, false, true, true, true, true, false, false, false, false, false] (frOf [(2, ptr b2 0), (4, ptr b4 0), (5, iV 0), (6, iV 0), (18, ptr b2 0), (22, iV (next + 1)), (24, .slice A n c), (29, .agg ([[iV next], (psk).map u8V].flatten).toArray)]) (hOf [(0, ⟨false, b, q, 0, encs EntE L, 0⟩), (2, ⟨true, b2, 0, 40, [(key).map u8V, [iV next, .slice A n c]].flatten, 0⟩), (4, ⟨true, b4, 0, 40, [(List.replicate 32 0#8).map u8V, [iV 0, .slice none 0 0]].flatten, 0⟩)]) := by
     clear hG5_0 hG5_1 hG5_2 hG5_3 hG5_4 hG5_5 hG5_6 hG5_7 hG5_8 hG5_9 hG5_10 hG5_11 hG5_12 hG5_13 hG5_14 hG5_15 hG5_16 hG5_17 hG5_19 hG5_20 hG5_21 hG5_22 hG5_23 hG5_27 hG5_28 hG5_29 hG5_30 hG5_31 hG5_32 hG5_33 hG5_34 hG5_35 hG5_36 hG5_37 hG5_38 hG5_39 hG5_40
     refine hGo ?_
     refine At.bStep [1, 7, 12, 15] (by kernel_rfl) (by simp) ?_
     refine ⟨?_, ?_, ?_, ?_⟩
     ·
      refine At.bSQ (some 19) (Q_loadN (k := 2) (j := 0) (cs := (key).map u8V) rfl rfl Try.underlying23 rfl sz23 rfl rfl rfl (seg_at (i := 0) rfl LN LN) LN) ?_
      exact At.into (hGi (hG5_18 )) rfl rfl
     ·
      refine At.bS false (by kernel_rfl) (S_callV (some 25) [(0, _)] [25] (vs := [_]) rfl en58 rfl (VN (by simp) rfl View.all V0) (by simp) (c_CloneEn (L := L) (A := A) (n := n) (c := c) (b := b) (q := q) LN hA OG) (by rintro _ _ ⟨A25, b25, c25, g25a, g25b, rfl, rfl⟩; rfl) ?_)
      rintro _ _ ⟨A25, b25, c25, g25a, g25b, rfl, rfl⟩
      exact At.into (hGi (hG5_24 A25 b25 c25 g25a g25b)) rfl rfl
     ·
      refine At.bS false (by kernel_rfl) (S_buildSliceE (some 30) 30 (cs := [[iV next], (psk).map u8V].flatten) rfl Try.underlying38 sz96 ze96 rfl rfl LN (by decide) (by decide) (fun b30 => ?_))
      refine At.row 30 (⟨true, b30, 0, 96, encs EntE [mkEnt next psk], 0⟩) rfl (ent_row LN) ?_
      exact At.into (hGi (hG5_25 b30)) rfl rfl
     ·
      refine At.bS false (by kernel_rfl) (S_alloc (some 7) 7 (zs := [(List.replicate 32 0#8).map u8V, [iV 0, .slice none 0 0]].flatten) rfl ze40 rfl (fun b7 => ?_))
      exact At.into (hGi (hG5_26 b7)) rfl rfl
    have hG5_42 (b30 : Nat) : G 7 #[true, false, true, true, true, true, false, false, true, true, true, true, true, false, false, false, false] (frOf [(2, ptr b2 0), (4, ptr b4 0), (5, iV 0), (6, iV 0), (18, ptr b2 0), (22, iV (next + 1)), (23, ptr b2 33), (30, .slice (some ⟨b30, 0, none⟩) 1 1)]) (hOf [(0, ⟨false, b, q, 0, encs EntE L, 0⟩), (2, ⟨true, b2, 0, 40, [(key).map u8V, [iV next, .slice A n c]].flatten, 0⟩), (4, ⟨true, b4, 0, 40, [(List.replicate 32 0#8).map u8V, [iV 0, .slice none 0 0]].flatten, 0⟩), (30, ⟨true, b30, 0, 96, encs EntE [mkEnt next psk], 0⟩)]) := by
     clear hG5_0 hG5_1 hG5_2 hG5_3 hG5_4 hG5_5 hG5_6 hG5_7 hG5_8 hG5_9 hG5_10 hG5_11 hG5_12 hG5_13 hG5_14 hG5_15 hG5_16 hG5_17 hG5_18 hG5_20 hG5_21 hG5_22 hG5_23 hG5_24 hG5_26 hG5_28 hG5_29 hG5_30 hG5_31 hG5_32 hG5_33 hG5_34 hG5_35 hG5_36 hG5_37 hG5_38 hG5_39 hG5_40 hG5_41
     refine hGo ?_
     refine At.bStep [1, 6, 15] (by kernel_rfl) (by simp) ?_
     refine ⟨?_, ?_, ?_⟩
     ·
      refine At.bSQ (some 19) (Q_loadN (k := 2) (j := 0) (cs := (key).map u8V) rfl rfl Try.underlying23 rfl sz23 rfl rfl rfl (seg_at (i := 0) rfl LN LN) LN) ?_
      exact At.into (hGi (hG5_19 b30)) rfl rfl
     ·
      refine At.bSQ (some 24) (Q_loadO (k := 2) rfl rfl Try.underlying38 rfl rfl (seg_get (i := 1) (p := 1) rfl LN rfl)) ?_
      exact At.into (hGi (hG5_25 b30)) rfl rfl
     ·
      refine At.bS false (by kernel_rfl) (S_alloc (some 7) 7 (zs := [(List.replicate 32 0#8).map u8V, [iV 0, .slice none 0 0]].flatten) rfl ze40 rfl (fun b7 => ?_))
      exact At.into (hGi (hG5_27 b30 b7)) rfl rfl
    have hG5_43 (b7 : Nat) : G 7 #[true, false, true, true, true, true, false, false, true, true, true, true, false, false, false, true, false] (frOf [(2, ptr b2 0), (4, ptr b4 0), (5, iV 0), (6, iV 0), (7, ptr b7 0), (18, ptr b2 0), (22, iV (next + 1)), (23, ptr b2 33), (29, .agg ([[iV next], (psk).map u8V].flatten).toArray)]) (hOf [(0, ⟨false, b, q, 0, encs EntE L, 0⟩), (2, ⟨true, b2, 0, 40, [(key).map u8V, [iV next, .slice A n c]].flatten, 0⟩), (4, ⟨true, b4, 0, 40, [(List.replicate 32 0#8).map u8V, [iV 0, .slice none 0 0]].flatten, 0⟩), (7, ⟨true, b7, 0, 40, [(List.replicate 32 0#8).map u8V, [iV 0, .slice none 0 0]].flatten, 0⟩)]) := by
     clear hG5_0 hG5_1 hG5_2 hG5_3 hG5_4 hG5_5 hG5_6 hG5_7 hG5_8 hG5_9 hG5_10 hG5_11 hG5_12 hG5_13 hG5_14 hG5_15 hG5_16 hG5_17 hG5_18 hG5_19 hG5_21 hG5_22 hG5_23 hG5_24 hG5_25 hG5_28 hG5_29 hG5_30 hG5_31 hG5_32 hG5_33 hG5_34 hG5_35 hG5_36 hG5_37 hG5_38 hG5_39 hG5_40 hG5_41 hG5_42
     refine hGo ?_
     refine At.bStep [1, 6, 12] (by kernel_rfl) (by simp) ?_
     refine ⟨?_, ?_, ?_⟩
     ·
      refine At.bSQ (some 19) (Q_loadN (k := 2) (j := 0) (cs := (key).map u8V) rfl rfl Try.underlying23 rfl sz23 rfl rfl rfl (seg_at (i := 0) rfl LN LN) LN) ?_
      exact At.into (hGi (hG5_20 b7)) rfl rfl
     ·
      refine At.bSQ (some 24) (Q_loadO (k := 2) rfl rfl Try.underlying38 rfl rfl (seg_get (i := 1) (p := 1) rfl LN rfl)) ?_
      exact At.into (hGi (hG5_26 b7)) rfl rfl
     ·
      refine At.bS false (by kernel_rfl) (S_buildSliceE (some 30) 30 (cs := [[iV next], (psk).map u8V].flatten) rfl Try.underlying38 sz96 ze96 rfl rfl LN (by decide) (by decide) (fun b30 => ?_))
      refine At.row 30 (⟨true, b30, 0, 96, encs EntE [mkEnt next psk], 0⟩) rfl (ent_row LN) ?_
      exact At.into (hGi (hG5_27 b30 b7)) rfl rfl
    have hG5_44 (A25 : Option Addr) (b25 c25 : Nat) (b30 : Nat) (g25a : 0 < c25 → A25 = some ⟨b25, 0, none⟩) (g25b : L.length ≤ c25) : G 7 #[true, false, true, false, false, true, true, true, true, true, true, true, true, false, false, false, false] (frOf [(2, ptr b2 0), (4, ptr b4 0), (5, iV 0), (6, iV 0), (18, ptr b2 0), (20, ptr b2 32), (25, .slice A25 L.length c25), (30, .slice (some ⟨b30, 0, none⟩) 1 1)]) (hOf [(0, ⟨false, b, q, 0, encs EntE L, 0⟩), (2, ⟨true, b2, 0, 40, [(key).map u8V, [iV next, .slice A n c]].flatten, 0⟩), (4, ⟨true, b4, 0, 40, [(List.replicate 32 0#8).map u8V, [iV 0, .slice none 0 0]].flatten, 0⟩), (25, ⟨true, b25, 0, 96, encs EntE L, (c25 - (L).length) * 33⟩), (30, ⟨true, b30, 0, 96, encs EntE [mkEnt next psk], 0⟩)]) := by
     clear hG5_0 hG5_1 hG5_3 hG5_4 hG5_5 hG5_6 hG5_7 hG5_8 hG5_9 hG5_10 hG5_11 hG5_12 hG5_14 hG5_15 hG5_16 hG5_17 hG5_18 hG5_19 hG5_20 hG5_22 hG5_23 hG5_24 hG5_25 hG5_26 hG5_27 hG5_29 hG5_30 hG5_31 hG5_32 hG5_33 hG5_34 hG5_35 hG5_36 hG5_37 hG5_38 hG5_39 hG5_40 hG5_41 hG5_42 hG5_43
     refine hGo ?_
     refine At.bStep [1, 3, 13, 15] (by kernel_rfl) (by simp) ?_
     refine ⟨?_, ?_, ?_, ?_⟩
     ·
      refine At.bSQ (some 19) (Q_loadN (k := 2) (j := 0) (cs := (key).map u8V) rfl rfl Try.underlying23 rfl sz23 rfl rfl rfl (seg_at (i := 0) rfl LN LN) LN) ?_
      exact At.into (hGi (hG5_21 A25 b25 c25 b30 g25a g25b)) rfl rfl
     ·
      refine At.bSQ (some 21) (Q_loadO (k := 2) rfl rfl Try.underlying3 rfl rfl (seg_get (i := 1) (p := 0) rfl LN rfl)) ?_
      refine At.bP  4 (some 22) (P_add_i rfl rfl rfl (by omega)) (by kernel_rfl) (by kernel_rfl) ?_
      exact At.into (hGi (hG5_13 A25 b25 c25 b30 g25a g25b)) rfl rfl
     ·
      refine At.bS true (by kernel_rfl) (S_appendE (en := EntE) (some 31) 25 ((L ++ [mkEnt next psk])) (l := L) (L := [mkEnt next psk]) (m := 1) (sz := 33) rfl rfl Try.underlying38 Try.underlying38 (.inr ⟨_, rfl⟩) sz96 by96 ze96 rfl rfl (fun h => ⟨g25a h, rfl⟩) LN OG OG (SrcE.all (en := EntE) (k := 30) (L := [mkEnt next psk]) rfl rfl (fun _ => rfl) (fun _ => ⟨rfl, rfl, rfl⟩) LN) OG OG rfl LN ?_)
      intro A31 b31 c31 g31a g31b
      refine At.bQ  1 (some 19) (Q_loadN (k := 2) (j := 0) (cs := (key).map u8V) rfl rfl Try.underlying23 rfl sz23 rfl rfl rfl (seg_at (i := 0) rfl LN LN) LN) (by kernel_rfl) (by kernel_rfl) ?_
      refine At.bQ  3 (some 21) (Q_loadO (k := 2) rfl rfl Try.underlying3 rfl rfl (seg_get (i := 1) (p := 0) rfl LN rfl)) (by kernel_rfl) (by kernel_rfl) ?_
      refine At.bP  4 (some 22) (P_add_i rfl rfl rfl (by omega)) (by kernel_rfl) (by kernel_rfl) ?_
      refine At.bP  14 (some 32) (P_build_struct (cs := ([(key).map u8V, [iV (next + 1), .slice A31 ((L ++ [mkEnt next psk]).length) c31]].flatten).toArray) (parts := _) (vs := [(0, _), (1, _), (2, _)]) rfl Try.underlying40 ze40 pl40 rfl (by show Instr.fill _ ([(List.replicate 32 0#8).map u8V, [iV 0], [.slice none 0 0]].flatten).toArray _ = _; refine fill_seg (k := 0) (vs := (key).map u8V) rfl rfl LN rfl LN LN ?_; refine fill_seg (k := 1) (vs := [iV (next + 1)]) rfl rfl LN rfl LN LN ?_; refine fill_seg (k := 2) (vs := [.slice A31 ((L ++ [mkEnt next psk]).length) c31]) rfl rfl LN rfl LN LN ?_; exact fill_end (by simp))) (by kernel_rfl) (by kernel_rfl) ?_
      exact At.into (hGi (hG5_2 A25 b25 c25 b30 A31 b31 c31 g25a g25b g31a g31b)) rfl rfl
     ·
      refine At.bS false (by kernel_rfl) (S_alloc (some 7) 7 (zs := [(List.replicate 32 0#8).map u8V, [iV 0, .slice none 0 0]].flatten) rfl ze40 rfl (fun b7 => ?_))
      exact At.into (hGi (hG5_28 A25 b25 c25 b30 b7 g25a g25b)) rfl rfl
    have hG5_45 (A25 : Option Addr) (b25 c25 : Nat) (b7 : Nat) (g25a : 0 < c25 → A25 = some ⟨b25, 0, none⟩) (g25b : L.length ≤ c25) : G 7 #[true, false, true, false, false, true, true, true, true, true, true, true, false, false, false, true, false] (frOf [(2, ptr b2 0), (4, ptr b4 0), (5, iV 0), (6, iV 0), (7, ptr b7 0), (18, ptr b2 0), (20, ptr b2 32), (25, .slice A25 L.length c25), (29, .agg ([[iV next], (psk).map u8V].flatten).toArray)]) (hOf [(0, ⟨false, b, q, 0, encs EntE L, 0⟩), (2, ⟨true, b2, 0, 40, [(key).map u8V, [iV next, .slice A n c]].flatten, 0⟩), (4, ⟨true, b4, 0, 40, [(List.replicate 32 0#8).map u8V, [iV 0, .slice none 0 0]].flatten, 0⟩), (7, ⟨true, b7, 0, 40, [(List.replicate 32 0#8).map u8V, [iV 0, .slice none 0 0]].flatten, 0⟩), (25, ⟨true, b25, 0, 96, encs EntE L, (c25 - (L).length) * 33⟩)]) := by
     clear hG5_0 hG5_1 hG5_2 hG5_3 hG5_4 hG5_5 hG5_6 hG5_7 hG5_8 hG5_9 hG5_10 hG5_11 hG5_12 hG5_13 hG5_15 hG5_16 hG5_17 hG5_18 hG5_19 hG5_20 hG5_21 hG5_23 hG5_24 hG5_25 hG5_26 hG5_27 hG5_29 hG5_30 hG5_31 hG5_32 hG5_33 hG5_34 hG5_35 hG5_36 hG5_37 hG5_38 hG5_39 hG5_40 hG5_41 hG5_42 hG5_43 hG5_44
     refine hGo ?_
     refine At.bStep [1, 3, 12] (by kernel_rfl) (by simp) ?_
     refine ⟨?_, ?_, ?_⟩
     ·
      refine At.bSQ (some 19) (Q_loadN (k := 2) (j := 0) (cs := (key).map u8V) rfl rfl Try.underlying23 rfl sz23 rfl rfl rfl (seg_at (i := 0) rfl LN LN) LN) ?_
      exact At.into (hGi (hG5_22 A25 b25 c25 b7 g25a g25b)) rfl rfl
     ·
      refine At.bSQ (some 21) (Q_loadO (k := 2) rfl rfl Try.underlying3 rfl rfl (seg_get (i := 1) (p := 0) rfl LN rfl)) ?_
      refine At.bP  4 (some 22) (P_add_i rfl rfl rfl (by omega)) (by kernel_rfl) (by kernel_rfl) ?_
      exact At.into (hGi (hG5_14 A25 b25 c25 b7 g25a g25b)) rfl rfl
     ·
      refine At.bS false (by kernel_rfl) (S_buildSliceE (some 30) 30 (cs := [[iV next], (psk).map u8V].flatten) rfl Try.underlying38 sz96 ze96 rfl rfl LN (by decide) (by decide) (fun b30 => ?_))
      refine At.row 30 (⟨true, b30, 0, 96, encs EntE [mkEnt next psk], 0⟩) rfl (ent_row LN) ?_
      exact At.into (hGi (hG5_28 A25 b25 c25 b30 b7 g25a g25b)) rfl rfl
    have hG5_46 (b30 : Nat) (b7 : Nat) : G 7 #[true, false, true, false, false, true, true, false, true, true, true, true, true, false, false, true, false] (frOf [(2, ptr b2 0), (4, ptr b4 0), (5, iV 0), (6, iV 0), (7, ptr b7 0), (18, ptr b2 0), (20, ptr b2 32), (24, .slice A n c), (30, .slice (some ⟨b30, 0, none⟩) 1 1)]) (hOf [(0, ⟨false, b, q, 0, encs EntE L, 0⟩), (2, ⟨true, b2, 0, 40, [(key).map u8V, [iV next, .slice A n c]].flatten, 0⟩), (4, ⟨true, b4, 0, 40, [(List.replicate 32 0#8).map u8V, [iV 0, .slice none 0 0]].flatten, 0⟩), (7, ⟨true, b7, 0, 40, [(List.replicate 32 0#8).map u8V, [iV 0, .slice none 0 0]].flatten, 0⟩), (30, ⟨true, b30, 0, 96, encs EntE [mkEnt next psk], 0⟩)]) := by
     clear hG5_0 hG5_1 hG5_2 hG5_3 hG5_4 hG5_5 hG5_6 hG5_7 hG5_8 hG5_9 hG5_10 hG5_11 hG5_12 hG5_13 hG5_14 hG5_16 hG5_17 hG5_18 hG5_19 hG5_20 hG5_21 hG5_22 hG5_24 hG5_25 hG5_26 hG5_27 hG5_29 hG5_30 hG5_31 hG5_32 hG5_33 hG5_34 hG5_35 hG5_36 hG5_37 hG5_38 hG5_39 hG5_40 hG5_41 hG5_42 hG5_43 hG5_44 hG5_45
     refine hGo ?_
     refine At.bStep [1, 3, 7] (by kernel_rfl) (by simp) ?_
     refine ⟨?_, ?_, ?_⟩
     ·
      refine At.bSQ (some 19) (Q_loadN (k := 2) (j := 0) (cs := (key).map u8V) rfl rfl Try.underlying23 rfl sz23 rfl rfl rfl (seg_at (i := 0) rfl LN LN) LN) ?_
      exact At.into (hGi (hG5_23 b30 b7)) rfl rfl
     ·
      refine At.bSQ (some 21) (Q_loadO (k := 2) rfl rfl Try.underlying3 rfl rfl (seg_get (i := 1) (p := 0) rfl LN rfl)) ?_
      refine At.bP  4 (some 22) (P_add_i rfl rfl rfl (by omega)) (by kernel_rfl) (by kernel_rfl) ?_
      exact At.into (hGi (hG5_15 b30 b7)) rfl rfl
     ·
      refine At.bS false (by kernel_rfl) (S_callV (some 25) [(0, _)] [25] (vs := [_]) rfl en58 rfl (VN (by simp) rfl View.all V0) (by simp) (c_CloneEn (L := L) (A := A) (n := n) (c := c) (b := b) (q := q) LN hA OG) (by rintro _ _ ⟨A25, b25, c25, g25a, g25b, rfl, rfl⟩; rfl) ?_)
      rintro _ _ ⟨A25, b25, c25, g25a, g25b, rfl, rfl⟩
      exact At.into (hGi (hG5_28 A25 b25 c25 b30 b7 g25a g25b)) rfl rfl
    have hG5_47 (A25 : Option Addr) (b25 c25 : Nat) (g25a : 0 < c25 → A25 = some ⟨b25, 0, none⟩) (g25b : L.length ≤ c25) : G 8 #[true, true, true, true, true, true, true, true, true, false, false, false, false, false, false, false, false] (frOf [(2, ptr b2 0), (3, ptr b3 0), (4, ptr b4 0), (5, iV 0), (6, iV 0), (19, aggK key), (22, iV (next + 1)), (25, .slice A25 L.length c25), (26, ptr b2 32)]) (hOf [(0, ⟨false, b, q, 0, encs EntE L, 0⟩), (2, ⟨true, b2, 0, 40, [(key).map u8V, [iV next, .slice A n c]].flatten, 0⟩), (3, ⟨true, b3, 0, 23, (psk).map u8V, 0⟩), (4, ⟨true, b4, 0, 40, [(List.replicate 32 0#8).map u8V, [iV 0, .slice none 0 0]].flatten, 0⟩), (25, ⟨true, b25, 0, 96, encs EntE L, (c25 - (L).length) * 33⟩)]) := by
     clear hG5_0 hG5_1 hG5_2 hG5_3 hG5_4 hG5_5 hG5_6 hG5_7 hG5_8 hG5_9 hG5_10 hG5_11 hG5_12 hG5_13 hG5_14 hG5_15 hG5_16 hG5_17 hG5_18 hG5_19 hG5_20 hG5_21 hG5_22 hG5_23 hG5_24 hG5_25 hG5_26 hG5_27 hG5_28 hG5_32 hG5_33 hG5_34 hG5_35 hG5_36 hG5_37 hG5_38 hG5_39 hG5_40 hG5_41 hG5_42 hG5_43 hG5_44 hG5_45 hG5_46
     refine hGo ?_
     refine At.bStep [9, 10, 15] (by kernel_rfl) (by simp) ?_
     refine ⟨?_, ?_, ?_⟩
     ·
      refine At.bSQ (some 27) (Q_loadO (k := 2) rfl rfl Try.underlying3 rfl rfl (seg_get (i := 1) (p := 0) rfl LN rfl)) ?_
      exact At.into (hGi (hG5_29 A25 b25 c25 g25a g25b)) rfl rfl
     ·
      refine At.bSQ (some 28) (Q_loadA (k := 3) rfl rfl Try.underlying23 rfl sz23 LN rfl) ?_
      exact At.into (hGi (hG5_30 A25 b25 c25 g25a g25b)) rfl rfl
     ·
      refine At.bS false (by kernel_rfl) (S_alloc (some 7) 7 (zs := [(List.replicate 32 0#8).map u8V, [iV 0, .slice none 0 0]].flatten) rfl ze40 rfl (fun b7 => ?_))
      exact At.into (hGi (hG5_31 A25 b25 c25 b7 g25a g25b)) rfl rfl
    have hG5_48  : G 8 #[true, true, true, true, true, true, true, false, true, true, false, false, false, false, false, false, false] (frOf [(2, ptr b2 0), (3, ptr b3 0), (4, ptr b4 0), (5, iV 0), (6, iV 0), (19, aggK key), (22, iV (next + 1)), (24, .slice A n c), (27, iV next)]) (hOf [(0, ⟨false, b, q, 0, encs EntE L, 0⟩), (2, ⟨true, b2, 0, 40, [(key).map u8V, [iV next, .slice A n c]].flatten, 0⟩), (3, ⟨true, b3, 0, 23, (psk).map u8V, 0⟩), (4, ⟨true, b4, 0, 40, [(List.replicate 32 0#8).map u8V, [iV 0, .slice none 0 0]].flatten, 0⟩)]) := by
     clear hG5_0 hG5_1 hG5_2 hG5_3 hG5_4 hG5_5 hG5_6 hG5_7 hG5_8 hG5_9 hG5_10 hG5_11 hG5_12 hG5_13 hG5_14 hG5_15 hG5_16 hG5_17 hG5_19 hG5_20 hG5_21 hG5_22 hG5_23 hG5_24 hG5_25 hG5_26 hG5_27 hG5_28 hG5_30 hG5_31 hG5_33 hG5_34 hG5_35 hG5_36 hG5_37 hG5_38 hG5_39 hG5_40 hG5_41 hG5_42 hG5_43 hG5_44 hG5_45 hG5_46 hG5_47
     refine hGo ?_
     refine At.bStep [7, 10, 15] (by kernel_rfl) (by simp) ?_
     refine ⟨?_, ?_, ?_⟩
     ·
      refine At.bS false (by kernel_rfl) (S_callV (some 25) [(0, _)] [25] (vs := [_]) rfl en58 rfl (VN (by simp) rfl View.all V0) (by simp) (c_CloneEn (L := L) (A := A) (n := n) (c := c) (b := b) (q := q) LN hA OG) (by rintro _ _ ⟨A25, b25, c25, g25a, g25b, rfl, rfl⟩; rfl) ?_)
      rintro _ _ ⟨A25, b25, c25, g25a, g25b, rfl, rfl⟩
      exact At.into (hGi (hG5_29 A25 b25 c25 g25a g25b)) rfl rfl
     ·
      refine At.bSQ (some 28) (Q_loadA (k := 3) rfl rfl Try.underlying23 rfl sz23 LN rfl) ?_
      refine At.bP  11 (some 29) (P_build_struct (cs := ([[iV next], (psk).map u8V].flatten).toArray) (parts := _) (vs := [(0, _), (1, _)]) rfl Try.underlying96 ze96 pl96 rfl (by show Instr.fill _ ([[iV 0], (List.replicate 32 0#8).map u8V].flatten).toArray _ = _; refine fill_seg (k := 0) (vs := [iV next]) rfl rfl LN rfl LN LN ?_; refine fill_seg (k := 1) (vs := (psk).map u8V) rfl rfl LN rfl LN LN ?_; exact fill_end (by simp))) (by kernel_rfl) (by kernel_rfl) ?_
      exact At.into (hGi (hG5_18 )) rfl rfl
     ·
      refine At.bS false (by kernel_rfl) (S_alloc (some 7) 7 (zs := [(List.replicate 32 0#8).map u8V, [iV 0, .slice none 0 0]].flatten) rfl ze40 rfl (fun b7 => ?_))
      exact At.into (hGi (hG5_32 b7)) rfl rfl
    have hG5_49  : G 8 #[true, true, true, true, true, true, true, false, true, false, true, false, false, false, false, false, false] (frOf [(2, ptr b2 0), (4, ptr b4 0), (5, iV 0), (6, iV 0), (19, aggK key), (22, iV (next + 1)), (24, .slice A n c), (26, ptr b2 32), (28, aggK psk)]) (hOf [(0, ⟨false, b, q, 0, encs EntE L, 0⟩), (2, ⟨true, b2, 0, 40, [(key).map u8V, [iV next, .slice A n c]].flatten, 0⟩), (4, ⟨true, b4, 0, 40, [(List.replicate 32 0#8).map u8V, [iV 0, .slice none 0 0]].flatten, 0⟩)]) := by
     clear hG5_0 hG5_1 hG5_2 hG5_3 hG5_4 hG5_5 hG5_6 hG5_7 hG5_8 hG5_9 hG5_10 hG5_11 hG5_12 hG5_13 hG5_14 hG5_15 hG5_16 hG5_17 hG5_19 hG5_20 hG5_21 hG5_22 hG5_23 hG5_24 hG5_25 hG5_26 hG5_27 hG5_28 hG5_29 hG5_31 hG5_32 hG5_34 hG5_35 hG5_36 hG5_37 hG5_38 hG5_39 hG5_40 hG5_41 hG5_42 hG5_43 hG5_44 hG5_45 hG5_46 hG5_47 hG5_48
     refine hGo ?_
     refine At.bStep [7, 9, 15] (by kernel_rfl) (by simp) ?_
     refine ⟨?_, ?_, ?_⟩
     ·
      refine At.bS false (by kernel_rfl) (S_callV (some 25) [(0, _)] [25] (vs := [_]) rfl en58 rfl (VN (by simp) rfl View.all V0) (by simp) (c_CloneEn (L := L) (A := A) (n := n) (c := c) (b := b) (q := q) LN hA OG) (by rintro _ _ ⟨A25, b25, c25, g25a, g25b, rfl, rfl⟩; rfl) ?_)
      rintro _ _ ⟨A25, b25, c25, g25a, g25b, rfl, rfl⟩
      exact At.into (hGi (hG5_30 A25 b25 c25 g25a g25b)) rfl rfl
     ·
      refine At.bSQ (some 27) (Q_loadO (k := 2) rfl rfl Try.underlying3 rfl rfl (seg_get (i := 1) (p := 0) rfl LN rfl)) ?_
      refine At.bP  11 (some 29) (P_build_struct (cs := ([[iV next], (psk).map u8V].flatten).toArray) (parts := _) (vs := [(0, _), (1, _)]) rfl Try.underlying96 ze96 pl96 rfl (by show Instr.fill _ ([[iV 0], (List.replicate 32 0#8).map u8V].flatten).toArray _ = _; refine fill_seg (k := 0) (vs := [iV next]) rfl rfl LN rfl LN LN ?_; refine fill_seg (k := 1) (vs := (psk).map u8V) rfl rfl LN rfl LN LN ?_; exact fill_end (by simp))) (by kernel_rfl) (by kernel_rfl) ?_
      exact At.into (hGi (hG5_18 )) rfl rfl
     ·
      refine At.bS false (by kernel_rfl) (S_alloc (some 7) 7 (zs := [(List.replicate 32 0#8).map u8V, [iV 0, .slice none 0 0]].flatten) rfl ze40 rfl (fun b7 => ?_))
      exact At.into (hGi (hG5_33 b7)) rfl rfl
    have hG5_50 (b7 : Nat) : G 8 #[true, true, true, true, true, true, true, false, true, false, false, false, false, false, false, true, false] (frOf [(2, ptr b2 0), (3, ptr b3 0), (4, ptr b4 0), (5, iV 0), (6, iV 0), (7, ptr b7 0), (19, aggK key), (22, iV (next + 1)), (24, .slice A n c), (26, ptr b2 32)]) (hOf [(0, ⟨false, b, q, 0, encs EntE L, 0⟩), (2, ⟨true, b2, 0, 40, [(key).map u8V, [iV next, .slice A n c]].flatten, 0⟩), (3, ⟨true, b3, 0, 23, (psk).map u8V, 0⟩), (4, ⟨true, b4, 0, 40, [(List.replicate 32 0#8).map u8V, [iV 0, .slice none 0 0]].flatten, 0⟩), (7, ⟨true, b7, 0, 40, [(List.replicate 32 0#8).map u8V, [iV 0, .slice none 0 0]].flatten, 0⟩)]) := by
     clear hG5_0 hG5_1 hG5_2 hG5_3 hG5_4 hG5_5 hG5_6 hG5_7 hG5_8 hG5_9 hG5_10 hG5_11 hG5_12 hG5_13 hG5_14 hG5_15 hG5_16 hG5_17 hG5_18 hG5_19 hG5_20 hG5_21 hG5_22 hG5_23 hG5_24 hG5_25 hG5_26 hG5_27 hG5_28 hG5_29 hG5_30 hG5_34 hG5_35 hG5_36 hG5_37 hG5_38 hG5_39 hG5_40 hG5_41 hG5_42 hG5_43 hG5_44 hG5_45 hG5_46 hG5_47 hG5_48 hG5_49
     refine hGo ?_
     refine At.bStep [7, 9, 10] (by kernel_rfl) (by simp) ?_
     refine ⟨?_, ?_, ?_⟩
     ·
      refine At.bS false (by kernel_rfl) (S_callV (some 25) [(0, _)] [25] (vs := [_]) rfl en58 rfl (VN (by simp) rfl View.all V0) (by simp) (c_CloneEn (L := L) (A := A) (n := n) (c := c) (b := b) (q := q) LN hA OG) (by rintro _ _ ⟨A25, b25, c25, g25a, g25b, rfl, rfl⟩; rfl) ?_)
      rintro _ _ ⟨A25, b25, c25, g25a, g25b, rfl, rfl⟩
      exact At.into (hGi (hG5_31 A25 b25 c25 b7 g25a g25b)) rfl rfl
     ·
      refine At.bSQ (some 27) (Q_loadO (k := 2) rfl rfl Try.underlying3 rfl rfl (seg_get (i := 1) (p := 0) rfl LN rfl)) ?_
      exact At.into (hGi (hG5_32 b7)) rfl rfl
     ·
      refine At.bSQ (some 28) (Q_loadA (k := 3) rfl rfl Try.underlying23 rfl sz23 LN rfl) ?_
      exact At.into (hGi (hG5_33 b7)) rfl rfl
    have hG5_51 (b7 : Nat) : G 8 #[true, true, true, true, true, true, false, false, true, true, false, false, false, false, false, true, false] (frOf [(2, ptr b2 0), (3, ptr b3 0), (4, ptr b4 0), (5, iV 0), (6, iV 0), (7, ptr b7 0), (19, aggK key), (22, iV (next + 1)), (23, ptr b2 33), (27, iV next)]) (hOf [(0, ⟨false, b, q, 0, encs EntE L, 0⟩), (2, ⟨true, b2, 0, 40, [(key).map u8V, [iV next, .slice A n c]].flatten, 0⟩), (3, ⟨true, b3, 0, 23, (psk).map u8V, 0⟩), (4, ⟨true, b4, 0, 40, [(List.replicate 32 0#8).map u8V, [iV 0, .slice none 0 0]].flatten, 0⟩), (7, ⟨true, b7, 0, 40, [(List.replicate 32 0#8).map u8V, [iV 0, .slice none 0 0]].flatten, 0⟩)]) := by
     clear hG5_0 hG5_1 hG5_2 hG5_3 hG5_4 hG5_5 hG5_6 hG5_7 hG5_8 hG5_9 hG5_10 hG5_11 hG5_12 hG5_13 hG5_14 hG5_15 hG5_16 hG5_17 hG5_18 hG5_19 hG5_21 hG5_22 hG5_23 hG5_24 hG5_25 hG5_26 hG5_27 hG5_28 hG5_29 hG5_30 hG5_31 hG5_33 hG5_34 hG5_35 hG5_36 hG5_37 hG5_38 hG5_39 hG5_40 hG5_41 hG5_42 hG5_43 hG5_44 hG5_45 hG5_46 hG5_47 hG5_48 hG5_49 hG5_50
     refine hGo ?_
     refine At.bStep [6, 10] (by kernel_rfl) (by simp) ?_
     refine ⟨?_, ?_⟩
     ·
      refine At.bSQ (some 24) (Q_loadO (k := 2) rfl rfl Try.underlying38 rfl rfl (seg_get (i := 1) (p := 1) rfl LN rfl)) ?_
      exact At.into (hGi (hG5_32 b7)) rfl rfl
     ·
      refine At.bSQ (some 28) (Q_loadA (k := 3) rfl rfl Try.underlying23 rfl sz23 LN rfl) ?_
      refine At.bP  11 (some 29) (P_build_struct (cs := ([[iV next], (psk).map u8V].flatten).toArray) (parts := _) (vs := [(0, _), (1, _)]) rfl Try.underlying96 ze96 pl96 rfl (by show Instr.fill _ ([[iV 0], (List.replicate 32 0#8).map u8V].flatten).toArray _ = _; refine fill_seg (k := 0) (vs := [iV next]) rfl rfl LN rfl LN LN ?_; refine fill_seg (k := 1) (vs := (psk).map u8V) rfl rfl LN rfl LN LN ?_; exact fill_end (by simp))) (by kernel_rfl) (by kernel_rfl) ?_
      exact At.into (hGi (hG5_20 b7)) rfl rfl
    have hG5_52 (b7 : Nat) : G 8 #[true, true, true, true, true, true, false, false, true, false, true, false, false, false, false, true, false] (frOf [(2, ptr b2 0), (4, ptr b4 0), (5, iV 0), (6, iV 0), (7, ptr b7 0), (19, aggK key), (22, iV (next + 1)), (23, ptr b2 33), (26, ptr b2 32), (28, aggK psk)]) (hOf [(0, ⟨false, b, q, 0, encs EntE L, 0⟩), (2, ⟨true, b2, 0, 40, [(key).map u8V, [iV next, .slice A n c]].flatten, 0⟩), (4, ⟨true, b4, 0, 40, [(List.replicate 32 0#8).map u8V, [iV 0, .slice none 0 0]].flatten, 0⟩), (7, ⟨true, b7, 0, 40, [(List.replicate 32 0#8).map u8V, [iV 0, .slice none 0 0]].flatten, 0⟩)]) := by
     clear hG5_0 hG5_1 hG5_2 hG5_3 hG5_4 hG5_5 hG5_6 hG5_7 hG5_8 hG5_9 hG5_10 hG5_11 hG5_12 hG5_13 hG5_14 hG5_15 hG5_16 hG5_17 hG5_18 hG5_19 hG5_21 hG5_22 hG5_23 hG5_24 hG5_25 hG5_26 hG5_27 hG5_28 hG5_29 hG5_30 hG5_31 hG5_32 hG5_34 hG5_35 hG5_36 hG5_37 hG5_38 hG5_39 hG5_40 hG5_41 hG5_42 hG5_43 hG5_44 hG5_45 hG5_46 hG5_47 hG5_48 hG5_49 hG5_50 hG5_51
     refine hGo ?_
     refine At.bStep [6, 9] (by kernel_rfl) (by simp) ?_
     refine ⟨?_, ?_⟩
     ·
      refine At.bSQ (some 24) (Q_loadO (k := 2) rfl rfl Try.underlying38 rfl rfl (seg_get (i := 1) (p := 1) rfl LN rfl)) ?_
      exact At.into (hGi (hG5_33 b7)) rfl rfl
     ·
      refine At.bSQ (some 27) (Q_loadO (k := 2) rfl rfl Try.underlying3 rfl rfl (seg_get (i := 1) (p := 0) rfl LN rfl)) ?_
      refine At.bP  11 (some 29) (P_build_struct (cs := ([[iV next], (psk).map u8V].flatten).toArray) (parts := _) (vs := [(0, _), (1, _)]) rfl Try.underlying96 ze96 pl96 rfl (by show Instr.fill _ ([[iV 0], (List.replicate 32 0#8).map u8V].flatten).toArray _ = _; refine fill_seg (k := 0) (vs := [iV next]) rfl rfl LN rfl LN LN ?_; refine fill_seg (k := 1) (vs := (psk).map u8V) rfl rfl LN rfl LN LN ?_; exact fill_end (by simp))) (by kernel_rfl) (by kernel_rfl) ?_
      exact At.into (hGi (hG5_20 b7)) rfl rfl
    have hG5_53 (A25 : Option Addr) (b25 c25 : Nat) (b7 : Nat) (g25a : 0 < c25 → A25 = some ⟨b25, 0, none⟩) (g25b : L.length ≤ c25) : G 8 #[true, true, true, false, false, true, true, true, true, true, false, false, false, false, false, true, false] (frOf [(2, ptr b2 0), (3, ptr b3 0), (4, ptr b4 0), (5, iV 0), (6, iV 0), (7, ptr b7 0), (19, aggK key), (20, ptr b2 32), (25, .slice A25 L.length c25), (27, iV next)]) (hOf [(0, ⟨false, b, q, 0, encs EntE L, 0⟩), (2, ⟨true, b2, 0, 40, [(key).map u8V, [iV next, .slice A n c]].flatten, 0⟩), (3, ⟨true, b3, 0, 23, (psk).map u8V, 0⟩), (4, ⟨true, b4, 0, 40, [(List.replicate 32 0#8).map u8V, [iV 0, .slice none 0 0]].flatten, 0⟩), (7, ⟨true, b7, 0, 40, [(List.replicate 32 0#8).map u8V, [iV 0, .slice none 0 0]].flatten, 0⟩), (25, ⟨true, b25, 0, 96, encs EntE L, (c25 - (L).length) * 33⟩)]) := by
     clear hG5_0 hG5_1 hG5_2 hG5_3 hG5_4 hG5_5 hG5_6 hG5_7 hG5_8 hG5_9 hG5_10 hG5_11 hG5_12 hG5_13 hG5_14 hG5_15 hG5_17 hG5_18 hG5_19 hG5_20 hG5_21 hG5_23 hG5_24 hG5_25 hG5_26 hG5_27 hG5_28 hG5_29 hG5_30 hG5_31 hG5_32 hG5_33 hG5_34 hG5_35 hG5_36 hG5_37 hG5_38 hG5_39 hG5_40 hG5_41 hG5_42 hG5_43 hG5_44 hG5_45 hG5_46 hG5_47 hG5_48 hG5_49 hG5_50 hG5_51 hG5_52
     refine hGo ?_
     refine At.bStep [3, 10] (by kernel_rfl) (by simp) ?_
     refine ⟨?_, ?_⟩
     ·
      refine At.bSQ (some 21) (Q_loadO (k := 2) rfl rfl Try.underlying3 rfl rfl (seg_get (i := 1) (p := 0) rfl LN rfl)) ?_
      refine At.bP  4 (some 22) (P_add_i rfl rfl rfl (by omega)) (by kernel_rfl) (by kernel_rfl) ?_
      exact At.into (hGi (hG5_16 A25 b25 c25 b7 g25a g25b)) rfl rfl
     ·
      refine At.bSQ (some 28) (Q_loadA (k := 3) rfl rfl Try.underlying23 rfl sz23 LN rfl) ?_
      refine At.bP  11 (some 29) (P_build_struct (cs := ([[iV next], (psk).map u8V].flatten).toArray) (parts := _) (vs := [(0, _), (1, _)]) rfl Try.underlying96 ze96 pl96 rfl (by show Instr.fill _ ([[iV 0], (List.replicate 32 0#8).map u8V].flatten).toArray _ = _; refine fill_seg (k := 0) (vs := [iV next]) rfl rfl LN rfl LN LN ?_; refine fill_seg (k := 1) (vs := (psk).map u8V) rfl rfl LN rfl LN LN ?_; exact fill_end (by simp))) (by kernel_rfl) (by kernel_rfl) ?_
      exact At.into (hGi (hG5_22 A25 b25 c25 b7 g25a g25b)) rfl rfl
    have hG5_54 (A25 : Option Addr) (b25 c25 : Nat) (b7 : Nat) (g25a : 0 < c25 → A25 = some ⟨b25, 0, none⟩) (g25b : L.length ≤ c25) : G 8 #[true, true, true, false, false, true, true, true, true, false, true, false, false, false, false, true, false] (frOf [(2, ptr b2 0), (4, ptr b4 0), (5, iV 0), (6, iV 0), (7, ptr b7 0), (19, aggK key), (20, ptr b2 32), (25, .slice A25 L.length c25), (26, ptr b2 32), (28, aggK psk)]) (hOf [(0, ⟨false, b, q, 0, encs EntE L, 0⟩), (2, ⟨true, b2, 0, 40, [(key).map u8V, [iV next, .slice A n c]].flatten, 0⟩), (4, ⟨true, b4, 0, 40, [(List.replicate 32 0#8).map u8V, [iV 0, .slice none 0 0]].flatten, 0⟩), (7, ⟨true, b7, 0, 40, [(List.replicate 32 0#8).map u8V, [iV 0, .slice none 0 0]].flatten, 0⟩), (25, ⟨true, b25, 0, 96, encs EntE L, (c25 - (L).length) * 33⟩)]) := by
     clear hG5_0 hG5_1 hG5_2 hG5_3 hG5_4 hG5_5 hG5_6 hG5_7 hG5_8 hG5_9 hG5_10 hG5_11 hG5_12 hG5_13 hG5_14 hG5_15 hG5_16 hG5_18 hG5_19 hG5_20 hG5_21 hG5_23 hG5_24 hG5_25 hG5_26 hG5_27 hG5_28 hG5_29 hG5_30 hG5_31 hG5_32 hG5_33 hG5_34 hG5_35 hG5_36 hG5_37 hG5_38 hG5_39 hG5_40 hG5_41 hG5_42 hG5_43 hG5_44 hG5_45 hG5_46 hG5_47 hG5_48 hG5_49 hG5_50 hG5_51 hG5_52 hG5_53
     refine hGo ?_
     refine At.bStep [3, 9] (by kernel_rfl) (by simp) ?_
     refine ⟨?_, ?_⟩
     ·
      refine At.bSQ (some 21) (Q_loadO (k := 2) rfl rfl Try.underlying3 rfl rfl (seg_get (i := 1) (p := 0) rfl LN rfl)) ?_
      refine At.bP  4 (some 22) (P_add_i rfl rfl rfl (by omega)) (by kernel_rfl) (by kernel_rfl) ?_
      exact At.into (hGi (hG5_17 A25 b25 c25 b7 g25a g25b)) rfl rfl
     ·
      refine At.bSQ (some 27) (Q_loadO (k := 2) rfl rfl Try.underlying3 rfl rfl (seg_get (i := 1) (p := 0) rfl LN rfl)) ?_
      refine At.bP  11 (some 29) (P_build_struct (cs := ([[iV next], (psk).map u8V].flatten).toArray) (parts := _) (vs := [(0, _), (1, _)]) rfl Try.underlying96 ze96 pl96 rfl (by show Instr.fill _ ([[iV 0], (List.replicate 32 0#8).map u8V].flatten).toArray _ = _; refine fill_seg (k := 0) (vs := [iV next]) rfl rfl LN rfl LN LN ?_; refine fill_seg (k := 1) (vs := (psk).map u8V) rfl rfl LN rfl LN LN ?_; exact fill_end (by simp))) (by kernel_rfl) (by kernel_rfl) ?_
      exact At.into (hGi (hG5_22 A25 b25 c25 b7 g25a g25b)) rfl rfl
    have hG5_55  : G 8 #[true, true, true, false, false, true, true, false, true, true, true, true, false, false, false, false, false] (frOf [(2, ptr b2 0), (4, ptr b4 0), (5, iV 0), (6, iV 0), (19, aggK key), (20, ptr b2 32), (24, .slice A n c), (29, .agg ([[iV next], (psk).map u8V].flatten).toArray)]) (hOf [(0, ⟨false, b, q, 0, encs EntE L, 0⟩), (2, ⟨true, b2, 0, 40, [(key).map u8V, [iV next, .slice A n c]].flatten, 0⟩), (4, ⟨true, b4, 0, 40, [(List.replicate 32 0#8).map u8V, [iV 0, .slice none 0 0]].flatten, 0⟩)]) := by
     clear hG5_0 hG5_1 hG5_2 hG5_3 hG5_4 hG5_5 hG5_6 hG5_7 hG5_8 hG5_9 hG5_10 hG5_11 hG5_12 hG5_13 hG5_14 hG5_15 hG5_16 hG5_17 hG5_19 hG5_20 hG5_21 hG5_22 hG5_23 hG5_24 hG5_25 hG5_26 hG5_27 hG5_28 hG5_29 hG5_30 hG5_31 hG5_32 hG5_33 hG5_34 hG5_38 hG5_39 hG5_40 hG5_41 hG5_42 hG5_43 hG5_44 hG5_45 hG5_46 hG5_47 hG5_48 hG5_49 hG5_50 hG5_51 hG5_52 hG5_53 hG5_54
     refine hGo ?_
     refine At.bStep [3, 7, 12, 15] (by kernel_rfl) (by simp) ?_
     refine ⟨?_, ?_, ?_, ?_⟩
     ·
      refine At.bSQ (some 21) (Q_loadO (k := 2) rfl rfl Try.underlying3 rfl rfl (seg_get (i := 1) (p := 0) rfl LN rfl)) ?_
      refine At.bP  4 (some 22) (P_add_i rfl rfl rfl (by omega)) (by kernel_rfl) (by kernel_rfl) ?_
      exact At.into (hGi (hG5_18 )) rfl rfl
     ·
      refine At.bS false (by kernel_rfl) (S_callV (some 25) [(0, _)] [25] (vs := [_]) rfl en58 rfl (VN (by simp) rfl View.all V0) (by simp) (c_CloneEn (L := L) (A := A) (n := n) (c := c) (b := b) (q := q) LN hA OG) (by rintro _ _ ⟨A25, b25, c25, g25a, g25b, rfl, rfl⟩; rfl) ?_)
      rintro _ _ ⟨A25, b25, c25, g25a, g25b, rfl, rfl⟩
      exact At.into (hGi (hG5_35 A25 b25 c25 g25a g25b)) rfl rfl
     ·
      refine At.bS false (by kernel_rfl) (S_buildSliceE (some 30) 30 (cs := [[iV next], (psk).map u8V].flatten) rfl Try.underlying38 sz96 ze96 rfl rfl LN (by decide) (by decide) (fun b30 => ?_))
      refine At.row 30 (⟨true, b30, 0, 96, encs EntE [mkEnt next psk], 0⟩) rfl (ent_row LN) ?_
      exact At.into (hGi (hG5_36 b30)) rfl rfl
     ·
      refine At.bS false (by kernel_rfl) (S_alloc (some 7) 7 (zs := [(List.replicate 32 0#8).map u8V, [iV 0, .slice none 0 0]].flatten) rfl ze40 rfl (fun b7 => ?_))
      exact At.into (hGi (hG5_37 b7)) rfl rfl
    have hG5_56 (b30 : Nat) : G 8 #[true, true, true, false, false, true, false, false, true, true, true, true, true, false, false, false, false] (frOf [(2, ptr b2 0), (4, ptr b4 0), (5, iV 0), (6, iV 0), (19, aggK key), (20, ptr b2 32), (23, ptr b2 33), (30, .slice (some ⟨b30, 0, none⟩) 1 1)]) (hOf [(0, ⟨false, b, q, 0, encs EntE L, 0⟩), (2, ⟨true, b2, 0, 40, [(key).map u8V, [iV next, .slice A n c]].flatten, 0⟩), (4, ⟨true, b4, 0, 40, [(List.replicate 32 0#8).map u8V, [iV 0, .slice none 0 0]].flatten, 0⟩), (30, ⟨true, b30, 0, 96, encs EntE [mkEnt next psk], 0⟩)]) := by
     clear hG5_0 hG5_1 hG5_2 hG5_3 hG5_4 hG5_5 hG5_6 hG5_7 hG5_8 hG5_9 hG5_10 hG5_11 hG5_12 hG5_13 hG5_14 hG5_15 hG5_16 hG5_17 hG5_18 hG5_20 hG5_21 hG5_22 hG5_23 hG5_24 hG5_25 hG5_26 hG5_27 hG5_28 hG5_29 hG5_30 hG5_31 hG5_32 hG5_33 hG5_34 hG5_35 hG5_37 hG5_39 hG5_40 hG5_41 hG5_42 hG5_43 hG5_44 hG5_45 hG5_46 hG5_47 hG5_48 hG5_49 hG5_50 hG5_51 hG5_52 hG5_53 hG5_54 hG5_55
     refine hGo ?_
     refine At.bStep [3, 6, 15] (by kernel_rfl) (by simp) ?_
     refine ⟨?_, ?_, ?_⟩
     ·
      refine At.bSQ (some 21) (Q_loadO (k := 2) rfl rfl Try.underlying3 rfl rfl (seg_get (i := 1) (p := 0) rfl LN rfl)) ?_
      refine At.bP  4 (some 22) (P_add_i rfl rfl rfl (by omega)) (by kernel_rfl) (by kernel_rfl) ?_
      exact At.into (hGi (hG5_19 b30)) rfl rfl
     ·
      refine At.bSQ (some 24) (Q_loadO (k := 2) rfl rfl Try.underlying38 rfl rfl (seg_get (i := 1) (p := 1) rfl LN rfl)) ?_
      exact At.into (hGi (hG5_36 b30)) rfl rfl
     ·
      refine At.bS false (by kernel_rfl) (S_alloc (some 7) 7 (zs := [(List.replicate 32 0#8).map u8V, [iV 0, .slice none 0 0]].flatten) rfl ze40 rfl (fun b7 => ?_))
      exact At.into (hGi (hG5_38 b30 b7)) rfl rfl
    have hG5_57 (b7 : Nat) : G 8 #[true, true, true, false, false, true, false, false, true, true, true, true, false, false, false, true, false] (frOf [(2, ptr b2 0), (4, ptr b4 0), (5, iV 0), (6, iV 0), (7, ptr b7 0), (19, aggK key), (20, ptr b2 32), (23, ptr b2 33), (29, .agg ([[iV next], (psk).map u8V].flatten).toArray)]) (hOf [(0, ⟨false, b, q, 0, encs EntE L, 0⟩), (2, ⟨true, b2, 0, 40, [(key).map u8V, [iV next, .slice A n c]].flatten, 0⟩), (4, ⟨true, b4, 0, 40, [(List.replicate 32 0#8).map u8V, [iV 0, .slice none 0 0]].flatten, 0⟩), (7, ⟨true, b7, 0, 40, [(List.replicate 32 0#8).map u8V, [iV 0, .slice none 0 0]].flatten, 0⟩)]) := by
     clear hG5_0 hG5_1 hG5_2 hG5_3 hG5_4 hG5_5 hG5_6 hG5_7 hG5_8 hG5_9 hG5_10 hG5_11 hG5_12 hG5_13 hG5_14 hG5_15 hG5_16 hG5_17 hG5_18 hG5_19 hG5_21 hG5_22 hG5_23 hG5_24 hG5_25 hG5_26 hG5_27 hG5_28 hG5_29 hG5_30 hG5_31 hG5_32 hG5_33 hG5_34 hG5_35 hG5_36 hG5_39 hG5_40 hG5_41 hG5_42 hG5_43 hG5_44 hG5_45 hG5_46 hG5_47 hG5_48 hG5_49 hG5_50 hG5_51 hG5_52 hG5_53 hG5_54 hG5_55 hG5_56
     refine hGo ?_
     refine At.bStep [3, 6, 12] (by kernel_rfl) (by simp) ?_
     refine ⟨?_, ?_, ?_⟩
     ·
      refine At.bSQ (some 21) (Q_loadO (k := 2) rfl rfl Try.underlying3 rfl rfl (seg_get (i := 1) (p := 0) rfl LN rfl)) ?_
      refine At.bP  4 (some 22) (P_add_i rfl rfl rfl (by omega)) (by kernel_rfl) (by kernel_rfl) ?_
      exact At.into (hGi (hG5_20 b7)) rfl rfl
     ·
      refine At.bSQ (some 24) (Q_loadO (k := 2) rfl rfl Try.underlying38 rfl rfl (seg_get (i := 1) (p := 1) rfl LN rfl)) ?_
      exact At.into (hGi (hG5_37 b7)) rfl rfl
     ·
      refine At.bS false (by kernel_rfl) (S_buildSliceE (some 30) 30 (cs := [[iV next], (psk).map u8V].flatten) rfl Try.underlying38 sz96 ze96 rfl rfl LN (by decide) (by decide) (fun b30 => ?_))
      refine At.row 30 (⟨true, b30, 0, 96, encs EntE [mkEnt next psk], 0⟩) rfl (ent_row LN) ?_
      exact At.into (hGi (hG5_38 b30 b7)) rfl rfl
    have hG5_58 (A25 : Option Addr) (b25 c25 : Nat) (g25a : 0 < c25 → A25 = some ⟨b25, 0, none⟩) (g25b : L.length ≤ c25) : G 8 #[true, false, true, true, true, true, true, true, true, true, false, false, false, false, false, false, false] (frOf [(2, ptr b2 0), (3, ptr b3 0), (4, ptr b4 0), (5, iV 0), (6, iV 0), (18, ptr b2 0), (22, iV (next + 1)), (25, .slice A25 L.length c25), (27, iV next)]) (hOf [(0, ⟨false, b, q, 0, encs EntE L, 0⟩), (2, ⟨true, b2, 0, 40, [(key).map u8V, [iV next, .slice A n c]].flatten, 0⟩), (3, ⟨true, b3, 0, 23, (psk).map u8V, 0⟩), (4, ⟨true, b4, 0, 40, [(List.replicate 32 0#8).map u8V, [iV 0, .slice none 0 0]].flatten, 0⟩), (25, ⟨true, b25, 0, 96, encs EntE L, (c25 - (L).length) * 33⟩)]) := by
     clear hG5_0 hG5_1 hG5_2 hG5_3 hG5_4 hG5_5 hG5_6 hG5_7 hG5_8 hG5_9 hG5_10 hG5_11 hG5_12 hG5_13 hG5_14 hG5_15 hG5_16 hG5_17 hG5_18 hG5_19 hG5_20 hG5_21 hG5_22 hG5_23 hG5_25 hG5_26 hG5_27 hG5_28 hG5_30 hG5_31 hG5_32 hG5_33 hG5_34 hG5_35 hG5_36 hG5_37 hG5_38 hG5_40 hG5_41 hG5_42 hG5_43 hG5_44 hG5_45 hG5_46 hG5_47 hG5_48 hG5_49 hG5_50 hG5_51 hG5_52 hG5_53 hG5_54 hG5_55 hG5_56 hG5_57
     refine hGo ?_
     refine At.bStep [1, 10, 15] (by kernel_rfl) (by simp) ?_
     refine ⟨?_, ?_, ?_⟩
     ·
      refine At.bSQ (some 19) (Q_loadN (k := 2) (j := 0) (cs := (key).map u8V) rfl rfl Try.underlying23 rfl sz23 rfl rfl rfl (seg_at (i := 0) rfl LN LN) LN) ?_
      exact At.into (hGi (hG5_29 A25 b25 c25 g25a g25b)) rfl rfl
     ·
      refine At.bSQ (some 28) (Q_loadA (k := 3) rfl rfl Try.underlying23 rfl sz23 LN rfl) ?_
      refine At.bP  11 (some 29) (P_build_struct (cs := ([[iV next], (psk).map u8V].flatten).toArray) (parts := _) (vs := [(0, _), (1, _)]) rfl Try.underlying96 ze96 pl96 rfl (by show Instr.fill _ ([[iV 0], (List.replicate 32 0#8).map u8V].flatten).toArray _ = _; refine fill_seg (k := 0) (vs := [iV next]) rfl rfl LN rfl LN LN ?_; refine fill_seg (k := 1) (vs := (psk).map u8V) rfl rfl LN rfl LN LN ?_; exact fill_end (by simp))) (by kernel_rfl) (by kernel_rfl) ?_
      exact At.into (hGi (hG5_24 A25 b25 c25 g25a g25b)) rfl rfl
     ·
      refine At.bS false (by kernel_rfl) (S_alloc (some 7) 7 (zs := [(List.replicate 32 0#8).map u8V, [iV 0, .slice none 0 0]].flatten) rfl ze40 rfl (fun b7 => ?_))
      exact At.into (hGi (hG5_39 A25 b25 c25 b7 g25a g25b)) rfl rfl
    have hG5_59 (A25 : Option Addr) (b25 c25 : Nat) (g25a : 0 < c25 → A25 = some ⟨b25, 0, none⟩) (g25b : L.length ≤ c25) : G 8 #[true, false, true, true, true, true, true, true, true, false, true, false, false, false, false, false, false] (frOf [(2, ptr b2 0), (4, ptr b4 0), (5, iV 0), (6, iV 0), (18, ptr b2 0), (22, iV (next + 1)), (25, .slice A25 L.length c25), (26, ptr b2 32), (28, aggK psk)]) (hOf [(0, ⟨false, b, q, 0, encs EntE L, 0⟩), (2, ⟨true, b2, 0, 40, [(key).map u8V, [iV next, .slice A n c]].flatten, 0⟩), (4, ⟨true, b4, 0, 40, [(List.replicate 32 0#8).map u8V, [iV 0, .slice none 0 0]].flatten, 0⟩), (25, ⟨true, b25, 0, 96, encs EntE L, (c25 - (L).length) * 33⟩)]) := by
     clear hG5_0 hG5_1 hG5_2 hG5_3 hG5_4 hG5_5 hG5_6 hG5_7 hG5_8 hG5_9 hG5_10 hG5_11 hG5_12 hG5_13 hG5_14 hG5_15 hG5_16 hG5_17 hG5_18 hG5_19 hG5_20 hG5_21 hG5_22 hG5_23 hG5_25 hG5_26 hG5_27 hG5_28 hG5_29 hG5_31 hG5_32 hG5_33 hG5_34 hG5_35 hG5_36 hG5_37 hG5_38 hG5_39 hG5_41 hG5_42 hG5_43 hG5_44 hG5_45 hG5_46 hG5_47 hG5_48 hG5_49 hG5_50 hG5_51 hG5_52 hG5_53 hG5_54 hG5_55 hG5_56 hG5_57 hG5_58
     refine hGo ?_
     refine At.bStep [1, 9, 15] (by kernel_rfl) (by simp) ?_
     refine ⟨?_, ?_, ?_⟩
     ·
      refine At.bSQ (some 19) (Q_loadN (k := 2) (j := 0) (cs := (key).map u8V) rfl rfl Try.underlying23 rfl sz23 rfl rfl rfl (seg_at (i := 0) rfl LN LN) LN) ?_
      exact At.into (hGi (hG5_30 A25 b25 c25 g25a g25b)) rfl rfl
     ·
      refine At.bSQ (some 27) (Q_loadO (k := 2) rfl rfl Try.underlying3 rfl rfl (seg_get (i := 1) (p := 0) rfl LN rfl)) ?_
      refine At.bP  11 (some 29) (P_build_struct (cs := ([[iV next], (psk).map u8V].flatten).toArray) (parts := _) (vs := [(0, _), (1, _)]) rfl Try.underlying96 ze96 pl96 rfl (by show Instr.fill _ ([[iV 0], (List.replicate 32 0#8).map u8V].flatten).toArray _ = _; refine fill_seg (k := 0) (vs := [iV next]) rfl rfl LN rfl LN LN ?_; refine fill_seg (k := 1) (vs := (psk).map u8V) rfl rfl LN rfl LN LN ?_; exact fill_end (by simp))) (by kernel_rfl) (by kernel_rfl) ?_
      exact At.into (hGi (hG5_24 A25 b25 c25 g25a g25b)) rfl rfl
     ·
      refine At.bS false (by kernel_rfl) (S_alloc (some 7) 7 (zs := [(List.replicate 32 0#8).map u8V, [iV 0, .slice none 0 0]].flatten) rfl ze40 rfl (fun b7 => ?_))
      exact At.into (hGi (hG5_40 A25 b25 c25 b7 g25a g25b)) rfl rfl
    have hG5_60 (A25 : Option Addr) (b25 c25 : Nat) (b7 : Nat) (g25a : 0 < c25 → A25 = some ⟨b25, 0, none⟩) (g25b : L.length ≤ c25) : G 8 #[true, false, true, true, true, true, true, true, true, false, false, false, false, false, false, true, false] (frOf [(2, ptr b2 0), (3, ptr b3 0), (4, ptr b4 0), (5, iV 0), (6, iV 0), (7, ptr b7 0), (18, ptr b2 0), (22, iV (next + 1)), (25, .slice A25 L.length c25), (26, ptr b2 32)]) (hOf [(0, ⟨false, b, q, 0, encs EntE L, 0⟩), (2, ⟨true, b2, 0, 40, [(key).map u8V, [iV next, .slice A n c]].flatten, 0⟩), (3, ⟨true, b3, 0, 23, (psk).map u8V, 0⟩), (4, ⟨true, b4, 0, 40, [(List.replicate 32 0#8).map u8V, [iV 0, .slice none 0 0]].flatten, 0⟩), (7, ⟨true, b7, 0, 40, [(List.replicate 32 0#8).map u8V, [iV 0, .slice none 0 0]].flatten, 0⟩), (25, ⟨true, b25, 0, 96, encs EntE L, (c25 - (L).length) * 33⟩)]) := by
     clear hG5_0 hG5_1 hG5_2 hG5_3 hG5_4 hG5_5 hG5_6 hG5_7 hG5_8 hG5_9 hG5_10 hG5_11 hG5_12 hG5_13 hG5_14 hG5_15 hG5_16 hG5_17 hG5_18 hG5_19 hG5_20 hG5_21 hG5_22 hG5_23 hG5_24 hG5_25 hG5_26 hG5_27 hG5_28 hG5_29 hG5_30 hG5_32 hG5_33 hG5_34 hG5_35 hG5_36 hG5_37 hG5_38 hG5_41 hG5_42 hG5_43 hG5_44 hG5_45 hG5_46 hG5_47 hG5_48 hG5_49 hG5_50 hG5_51 hG5_52 hG5_53 hG5_54 hG5_55 hG5_56 hG5_57 hG5_58 hG5_59
     refine hGo ?_
     refine At.bStep [1, 9, 10] (by kernel_rfl) (by simp) ?_
     refine ⟨?_, ?_, ?_⟩
     ·
      refine At.bSQ (some 19) (Q_loadN (k := 2) (j := 0) (cs := (key).map u8V) rfl rfl Try.underlying23 rfl sz23 rfl rfl rfl (seg_at (i := 0) rfl LN LN) LN) ?_
      exact At.into (hGi (hG5_31 A25 b25 c25 b7 g25a g25b)) rfl rfl
     ·
      refine At.bSQ (some 27) (Q_loadO (k := 2) rfl rfl Try.underlying3 rfl rfl (seg_get (i := 1) (p := 0) rfl LN rfl)) ?_
      exact At.into (hGi (hG5_39 A25 b25 c25 b7 g25a g25b)) rfl rfl
     ·
      refine At.bSQ (some 28) (Q_loadA (k := 3) rfl rfl Try.underlying23 rfl sz23 LN rfl) ?_
      exact At.into (hGi (hG5_40 A25 b25 c25 b7 g25a g25b)) rfl rfl
    have hG5_61 (b7 : Nat) : G 8 #[true, false, true, true, true, true, true, false, true, true, false, false, false, false, false, true, false] (frOf [(2, ptr b2 0), (3, ptr b3 0), (4, ptr b4 0), (5, iV 0), (6, iV 0), (7, ptr b7 0), (18, ptr b2 0), (22, iV (next + 1)), (24, .slice A n c), (27, iV next)]) (hOf [(0, ⟨false, b, q, 0, encs EntE L, 0⟩), (2, ⟨true, b2, 0, 40, [(key).map u8V, [iV next, .slice A n c]].flatten, 0⟩), (3, ⟨true, b3, 0, 23, (psk).map u8V, 0⟩), (4, ⟨true, b4, 0, 40, [(List.replicate 32 0#8).map u8V, [iV 0, .slice none 0 0]].flatten, 0⟩), (7, ⟨true, b7, 0, 40, [(List.replicate 32 0#8).map u8V, [iV 0, .slice none 0 0]].flatten, 0⟩)]) := by
     clear hG5_0 hG5_1 hG5_2 hG5_3 hG5_4 hG5_5 hG5_6 hG5_7 hG5_8 hG5_9 hG5_10 hG5_11 hG5_12 hG5_13 hG5_14 hG5_15 hG5_16 hG5_17 hG5_18 hG5_19 hG5_20 hG5_21 hG5_22 hG5_23 hG5_24 hG5_25 hG5_27 hG5_28 hG5_29 hG5_30 hG5_31 hG5_33 hG5_34 hG5_35 hG5_36 hG5_37 hG5_38 hG5_40 hG5_41 hG5_42 hG5_43 hG5_44 hG5_45 hG5_46 hG5_47 hG5_48 hG5_49 hG5_50 hG5_51 hG5_52 hG5_53 hG5_54 hG5_55 hG5_56 hG5_57 hG5_58 hG5_59 hG5_60
     refine hGo ?_
     refine At.bStep [1, 7, 10] (by kernel_rfl) (by simp) ?_
     refine ⟨?_, ?_, ?_⟩
     ·
      refine At.bSQ (some 19) (Q_loadN (k := 2) (j := 0) (cs := (key).map u8V) rfl rfl Try.underlying23 rfl sz23 rfl rfl rfl (seg_at (i := 0) rfl LN LN) LN) ?_
      exact At.into (hGi (hG5_32 b7)) rfl rfl
     ·
      refine At.bS false (by kernel_rfl) (S_callV (some 25) [(0, _)] [25] (vs := [_]) rfl en58 rfl (VN (by simp) rfl View.all V0) (by simp) (c_CloneEn (L := L) (A := A) (n := n) (c := c) (b := b) (q := q) LN hA OG) (by rintro _ _ ⟨A25, b25, c25, g25a, g25b, rfl, rfl⟩; rfl) ?_)
      rintro _ _ ⟨A25, b25, c25, g25a, g25b, rfl, rfl⟩
      exact At.into (hGi (hG5_39 A25 b25 c25 b7 g25a g25b)) rfl rfl
     ·
      refine At.bSQ (some 28) (Q_loadA (k := 3) rfl rfl Try.underlying23 rfl sz23 LN rfl) ?_
      refine At.bP  11 (some 29) (P_build_struct (cs := ([[iV next], (psk).map u8V].flatten).toArray) (parts := _) (vs := [(0, _), (1, _)]) rfl Try.underlying96 ze96 pl96 rfl (by show Instr.fill _ ([[iV 0], (List.replicate 32 0#8).map u8V].flatten).toArray _ = _; refine fill_seg (k := 0) (vs := [iV next]) rfl rfl LN rfl LN LN ?_; refine fill_seg (k := 1) (vs := (psk).map u8V) rfl rfl LN rfl LN LN ?_; exact fill_end (by simp))) (by kernel_rfl) (by kernel_rfl) ?_
      exact At.into (hGi (hG5_26 b7)) rfl rfl
    have hG5_62 (b7 : Nat) : G 8 #[true, false, true, true, true, true, true, false, true, false, true, false, false, false, false, true, false] (frOf [(2, ptr b2 0), (4, ptr b4 0), (5, iV 0), (6, iV 0), (7, ptr b7 0), (18, ptr b2 0), (22, iV (next + 1)), (24, .slice A n c), (26, ptr b2 32), (28, aggK psk)]) (hOf [(0, ⟨false, b, q, 0, encs EntE L, 0⟩), (2, ⟨true, b2, 0, 40, [(key).map u8V, [iV next, .slice A n c]].flatten, 0⟩), (4, ⟨true, b4, 0, 40, [(List.replicate 32 0#8).map u8V, [iV 0, .slice none 0 0]].flatten, 0⟩), (7, ⟨true, b7, 0, 40, [(List.replicate 32 0#8).map u8V, [iV 0, .slice none 0 0]].flatten, 0⟩)]) := by
     clear hG5_0 hG5_1 hG5_2 hG5_3 hG5_4 hG5_5 hG5_6 hG5_7 hG5_8 hG5_9 hG5_10 hG5_11 hG5_12 hG5_13 hG5_14 hG5_15 hG5_16 hG5_17 hG5_18 hG5_19 hG5_20 hG5_21 hG5_22 hG5_23 hG5_24 hG5_25 hG5_27 hG5_28 hG5_29 hG5_30 hG5_31 hG5_32 hG5_34 hG5_35 hG5_36 hG5_37 hG5_38 hG5_39 hG5_41 hG5_42 hG5_43 hG5_44 hG5_45 hG5_46 hG5_47 hG5_48 hG5_49 hG5_50 hG5_51 hG5_52 hG5_53 hG5_54 hG5_55 hG5_56 hG5_57 hG5_58 hG5_59 hG5_60 hG5_61
     refine hGo ?_
     refine At.bStep [1, 7, 9] (by kernel_rfl) (by simp) ?_
     refine ⟨?_, ?_, ?_⟩
     ·
      refine At.bSQ (some 19) (Q_loadN (k := 2) (j := 0) (cs := (key).map u8V) rfl rfl Try.underlying23 rfl sz23 rfl rfl rfl (seg_at (i := 0) rfl LN LN) LN) ?_
      exact At.into (hGi (hG5_33 b7)) rfl rfl
     ·
      refine At.bS false (by kernel_rfl) (S_callV (some 25) [(0, _)] [25] (vs := [_]) rfl en58 rfl (VN (by simp) rfl View.all V0) (by simp) (c_CloneEn (L := L) (A := A) (n := n) (c := c) (b := b) (q := q) LN hA OG) (by rintro _ _ ⟨A25, b25, c25, g25a, g25b, rfl, rfl⟩; rfl) ?_)
      rintro _ _ ⟨A25, b25, c25, g25a, g25b, rfl, rfl⟩
      exact At.into (hGi (hG5_40 A25 b25 c25 b7 g25a g25b)) rfl rfl
     ·
      refine At.bSQ (some 27) (Q_loadO (k := 2) rfl rfl Try.underlying3 rfl rfl (seg_get (i := 1) (p := 0) rfl LN rfl)) ?_
      refine At.bP  11 (some 29) (P_build_struct (cs := ([[iV next], (psk).map u8V].flatten).toArray) (parts := _) (vs := [(0, _), (1, _)]) rfl Try.underlying96 ze96 pl96 rfl (by show Instr.fill _ ([[iV 0], (List.replicate 32 0#8).map u8V].flatten).toArray _ = _; refine fill_seg (k := 0) (vs := [iV next]) rfl rfl LN rfl LN LN ?_; refine fill_seg (k := 1) (vs := (psk).map u8V) rfl rfl LN rfl LN LN ?_; exact fill_end (by simp))) (by kernel_rfl) (by kernel_rfl) ?_
      exact At.into (hGi (hG5_26 b7)) rfl rfl
    have hG5_63  : G 8 #[true, false, true, true, true, true, false, false, true, true, true, true, false, false, false, false, false] (frOf [(2, ptr b2 0), (4, ptr b4 0), (5, iV 0), (6, iV 0), (18, ptr b2 0), (22, iV (next + 1)), (23, ptr b2 33), (29, .agg ([[iV next], (psk).map u8V].flatten).toArray)]) (hOf [(0, ⟨false, b, q, 0, encs EntE L, 0⟩), (2, ⟨true, b2, 0, 40, [(key).map u8V, [iV next, .slice A n c]].flatten, 0⟩), (4, ⟨true, b4, 0, 40, [(List.replicate 32 0#8).map u8V, [iV 0, .slice none 0 0]].flatten, 0⟩)]) := by
     clear hG5_0 hG5_1 hG5_2 hG5_3 hG5_4 hG5_5 hG5_6 hG5_7 hG5_8 hG5_9 hG5_10 hG5_11 hG5_12 hG5_13 hG5_14 hG5_15 hG5_16 hG5_17 hG5_18 hG5_19 hG5_20 hG5_21 hG5_22 hG5_23 hG5_24 hG5_25 hG5_26 hG5_27 hG5_28 hG5_29 hG5_30 hG5_31 hG5_32 hG5_33 hG5_35 hG5_36 hG5_37 hG5_38 hG5_39 hG5_40 hG5_44 hG5_45 hG5_46 hG5_47 hG5_48 hG5_49 hG5_50 hG5_51 hG5_52 hG5_53 hG5_54 hG5_55 hG5_56 hG5_57 hG5_58 hG5_59 hG5_60 hG5_61 hG5_62
     refine hGo ?_
     refine At.bStep [1, 6, 12, 15] (by kernel_rfl) (by simp) ?_
     refine ⟨?_, ?_, ?_, ?_⟩
     ·
      refine At.bSQ (some 19) (Q_loadN (k := 2) (j := 0) (cs := (key).map u8V) rfl rfl Try.underlying23 rfl sz23 rfl rfl rfl (seg_at (i := 0) rfl LN LN) LN) ?_
      exact At.into (hGi (hG5_34 )) rfl rfl
     ·
      refine At.bSQ (some 24) (Q_loadO (k := 2) rfl rfl Try.underlying38 rfl rfl (seg_get (i := 1) (p := 1) rfl LN rfl)) ?_
      exact At.into (hGi (hG5_41 )) rfl rfl
     ·
      refine At.bS false (by kernel_rfl) (S_buildSliceE (some 30) 30 (cs := [[iV next], (psk).map u8V].flatten) rfl Try.underlying38 sz96 ze96 rfl rfl LN (by decide) (by decide) (fun b30 => ?_))
      refine At.row 30 (⟨true, b30, 0, 96, encs EntE [mkEnt next psk], 0⟩) rfl (ent_row LN) ?_
      exact At.into (hGi (hG5_42 b30)) rfl rfl
     ·
      refine At.bS false (by kernel_rfl) (S_alloc (some 7) 7 (zs := [(List.replicate 32 0#8).map u8V, [iV 0, .slice none 0 0]].flatten) rfl ze40 rfl (fun b7 => ?_))
      exact At.into (hGi (hG5_43 b7)) rfl rfl
    have hG5_64 (A25 : Option Addr) (b25 c25 : Nat) (g25a : 0 < c25 → A25 = some ⟨b25, 0, none⟩) (g25b : L.length ≤ c25) : G 8 #[true, false, true, false, false, true, true, true, true, true, true, true, false, false, false, false, false] (frOf [(2, ptr b2 0), (4, ptr b4 0), (5, iV 0), (6, iV 0), (18, ptr b2 0), (20, ptr b2 32), (25, .slice A25 L.length c25), (29, .agg ([[iV next], (psk).map u8V].flatten).toArray)]) (hOf [(0, ⟨false, b, q, 0, encs EntE L, 0⟩), (2, ⟨true, b2, 0, 40, [(key).map u8V, [iV next, .slice A n c]].flatten, 0⟩), (4, ⟨true, b4, 0, 40, [(List.replicate 32 0#8).map u8V, [iV 0, .slice none 0 0]].flatten, 0⟩), (25, ⟨true, b25, 0, 96, encs EntE L, (c25 - (L).length) * 33⟩)]) := by
     clear hG5_0 hG5_1 hG5_2 hG5_3 hG5_4 hG5_5 hG5_6 hG5_7 hG5_8 hG5_9 hG5_10 hG5_11 hG5_12 hG5_13 hG5_14 hG5_15 hG5_16 hG5_17 hG5_18 hG5_19 hG5_20 hG5_21 hG5_22 hG5_23 hG5_25 hG5_26 hG5_27 hG5_28 hG5_29 hG5_30 hG5_31 hG5_32 hG5_33 hG5_34 hG5_36 hG5_37 hG5_38 hG5_39 hG5_40 hG5_41 hG5_42 hG5_43 hG5_46 hG5_47 hG5_48 hG5_49 hG5_50 hG5_51 hG5_52 hG5_53 hG5_54 hG5_55 hG5_56 hG5_57 hG5_58 hG5_59 hG5_60 hG5_61 hG5_62 hG5_63
     refine hGo ?_
     refine At.bStep [1, 3, 12, 15] (by kernel_rfl) (by simp) ?_
     refine ⟨?_, ?_, ?_, ?_⟩
     ·
      refine At.bSQ (some 19) (Q_loadN (k := 2) (j := 0) (cs := (key).map u8V) rfl rfl Try.underlying23 rfl sz23 rfl rfl rfl (seg_at (i := 0) rfl LN LN) LN) ?_
      exact At.into (hGi (hG5_35 A25 b25 c25 g25a g25b)) rfl rfl
     ·
      refine At.bSQ (some 21) (Q_loadO (k := 2) rfl rfl Try.underlying3 rfl rfl (seg_get (i := 1) (p := 0) rfl LN rfl)) ?_
      refine At.bP  4 (some 22) (P_add_i rfl rfl rfl (by omega)) (by kernel_rfl) (by kernel_rfl) ?_
      exact At.into (hGi (hG5_24 A25 b25 c25 g25a g25b)) rfl rfl
     ·
      refine At.bS false (by kernel_rfl) (S_buildSliceE (some 30) 30 (cs := [[iV next], (psk).map u8V].flatten) rfl Try.underlying38 sz96 ze96 rfl rfl LN (by decide) (by decide) (fun b30 => ?_))
      refine At.row 30 (⟨true, b30, 0, 96, encs EntE [mkEnt next psk], 0⟩) rfl (ent_row LN) ?_
      exact At.into (hGi (hG5_44 A25 b25 c25 b30 g25a g25b)) rfl rfl
     ·
      refine At.bS false (by kernel_rfl) (S_alloc (some 7) 7 (zs := [(List.replicate 32 0#8).map u8V, [iV 0, .slice none 0 0]].flatten) rfl ze40 rfl (fun b7 => ?_))
      exact At.into (hGi (hG5_45 A25 b25 c25 b7 g25a g25b)) rfl rfl
    have hG5_65 (b30 : Nat) : G 8 #[true, false, true, false, false, true, true, false, true, true, true, true, true, false, false, false, false] (frOf [(2, ptr b2 0), (4, ptr b4 0), (5, iV 0), (6, iV 0), (18, ptr b2 0), (20, ptr b2 32), (24, .slice A n c), (30, .slice (some ⟨b30, 0, none⟩) 1 1)]) (hOf [(0, ⟨false, b, q, 0, encs EntE L, 0⟩), (2, ⟨true, b2, 0, 40, [(key).map u8V, [iV next, .slice A n c]].flatten, 0⟩), (4, ⟨true, b4, 0, 40, [(List.replicate 32 0#8).map u8V, [iV 0, .slice none 0 0]].flatten, 0⟩), (30, ⟨true, b30, 0, 96, encs EntE [mkEnt next psk], 0⟩)]) := by
     clear hG5_0 hG5_1 hG5_2 hG5_3 hG5_4 hG5_5 hG5_6 hG5_7 hG5_8 hG5_9 hG5_10 hG5_11 hG5_12 hG5_13 hG5_14 hG5_15 hG5_16 hG5_17 hG5_18 hG5_19 hG5_20 hG5_21 hG5_22 hG5_23 hG5_24 hG5_26 hG5_27 hG5_28 hG5_29 hG5_30 hG5_31 hG5_32 hG5_33 hG5_34 hG5_35 hG5_37 hG5_38 hG5_39 hG5_40 hG5_41 hG5_42 hG5_43 hG5_45 hG5_47 hG5_48 hG5_49 hG5_50 hG5_51 hG5_52 hG5_53 hG5_54 hG5_55 hG5_56 hG5_57 hG5_58 hG5_59 hG5_60 hG5_61 hG5_62 hG5_63 hG5_64
     refine hGo ?_
     refine At.bStep [1, 3, 7, 15] (by kernel_rfl) (by simp) ?_
     refine ⟨?_, ?_, ?_, ?_⟩
     ·
      refine At.bSQ (some 19) (Q_loadN (k := 2) (j := 0) (cs := (key).map u8V) rfl rfl Try.underlying23 rfl sz23 rfl rfl rfl (seg_at (i := 0) rfl LN LN) LN) ?_
      exact At.into (hGi (hG5_36 b30)) rfl rfl
     ·
      refine At.bSQ (some 21) (Q_loadO (k := 2) rfl rfl Try.underlying3 rfl rfl (seg_get (i := 1) (p := 0) rfl LN rfl)) ?_
      refine At.bP  4 (some 22) (P_add_i rfl rfl rfl (by omega)) (by kernel_rfl) (by kernel_rfl) ?_
      exact At.into (hGi (hG5_25 b30)) rfl rfl
     ·
      refine At.bS false (by kernel_rfl) (S_callV (some 25) [(0, _)] [25] (vs := [_]) rfl en58 rfl (VN (by simp) rfl View.all V0) (by simp) (c_CloneEn (L := L) (A := A) (n := n) (c := c) (b := b) (q := q) LN hA OG) (by rintro _ _ ⟨A25, b25, c25, g25a, g25b, rfl, rfl⟩; rfl) ?_)
      rintro _ _ ⟨A25, b25, c25, g25a, g25b, rfl, rfl⟩
      exact At.into (hGi (hG5_44 A25 b25 c25 b30 g25a g25b)) rfl rfl
     ·
      refine At.bS false (by kernel_rfl) (S_alloc (some 7) 7 (zs := [(List.replicate 32 0#8).map u8V, [iV 0, .slice none 0 0]].flatten) rfl ze40 rfl (fun b7 => ?_))
      exact At.into (hGi (hG5_46 b30 b7)) rfl rfl
    have hG5_66 (b7 : Nat) : G 8 #[true, false, true, false, false, true, true, false, true, true, true, true, false, false, false, true, false] (frOf [(2, ptr b2 0), (4, ptr b4 0), (5, iV 0), (6, iV 0), (7, ptr b7 0), (18, ptr b2 0), (20, ptr b2 32), (24, .slice A n c), (29, .agg ([[iV next], (psk).map u8V].flatten).toArray)]) (hOf [(0, ⟨false, b, q, 0, encs EntE L, 0⟩), (2, ⟨true, b2, 0, 40, [(key).map u8V, [iV next, .slice A n c]].flatten, 0⟩), (4, ⟨true, b4, 0, 40, [(List.replicate 32 0#8).map u8V, [iV 0, .slice none 0 0]].flatten, 0⟩), (7, ⟨true, b7, 0, 40, [(List.replicate 32 0#8).map u8V, [iV 0, .slice none 0 0]].flatten, 0⟩)]) := by
     clear hG5_0 hG5_1 hG5_2 hG5_3 hG5_4 hG5_5 hG5_6 hG5_7 hG5_8 hG5_9 hG5_10 hG5_11 hG5_12 hG5_13 hG5_14 hG5_15 hG5_16 hG5_17 hG5_18 hG5_19 hG5_20 hG5_21 hG5_22 hG5_23 hG5_24 hG5_25 hG5_27 hG5_28 hG5_29 hG5_30 hG5_31 hG5_32 hG5_33 hG5_34 hG5_35 hG5_36 hG5_38 hG5_39 hG5_40 hG5_41 hG5_42 hG5_43 hG5_44 hG5_47 hG5_48 hG5_49 hG5_50 hG5_51 hG5_52 hG5_53 hG5_54 hG5_55 hG5_56 hG5_57 hG5_58 hG5_59 hG5_60 hG5_61 hG5_62 hG5_63 hG5_64 hG5_65
     refine hGo ?_
     refine At.bStep [1, 3, 7, 12] (by kernel_rfl) (by simp) ?_
     refine ⟨?_, ?_, ?_, ?_⟩
     ·
      refine At.bSQ (some 19) (Q_loadN (k := 2) (j := 0) (cs := (key).map u8V) rfl rfl Try.underlying23 rfl sz23 rfl rfl rfl (seg_at (i := 0) rfl LN LN) LN) ?_
      exact At.into (hGi (hG5_37 b7)) rfl rfl
     ·
      refine At.bSQ (some 21) (Q_loadO (k := 2) rfl rfl Try.underlying3 rfl rfl (seg_get (i := 1) (p := 0) rfl LN rfl)) ?_
      refine At.bP  4 (some 22) (P_add_i rfl rfl rfl (by omega)) (by kernel_rfl) (by kernel_rfl) ?_
      exact At.into (hGi (hG5_26 b7)) rfl rfl
     ·
      refine At.bS false (by kernel_rfl) (S_callV (some 25) [(0, _)] [25] (vs := [_]) rfl en58 rfl (VN (by simp) rfl View.all V0) (by simp) (c_CloneEn (L := L) (A := A) (n := n) (c := c) (b := b) (q := q) LN hA OG) (by rintro _ _ ⟨A25, b25, c25, g25a, g25b, rfl, rfl⟩; rfl) ?_)
      rintro _ _ ⟨A25, b25, c25, g25a, g25b, rfl, rfl⟩
      exact At.into (hGi (hG5_45 A25 b25 c25 b7 g25a g25b)) rfl rfl
     ·
      refine At.bS false (by kernel_rfl) (S_buildSliceE (some 30) 30 (cs := [[iV next], (psk).map u8V].flatten) rfl Try.underlying38 sz96 ze96 rfl rfl LN (by decide) (by decide) (fun b30 => ?_))
      refine At.row 30 (⟨true, b30, 0, 96, encs EntE [mkEnt next psk], 0⟩) rfl (ent_row LN) ?_
      exact At.into (hGi (hG5_46 b30 b7)) rfl rfl
    have hG5_67 (b30 : Nat) (b7 : Nat) : G 8 #[true, false, true, false, false, true, false, false, true, true, true, true, true, false, false, true, false] (frOf [(2, ptr b2 0), (4, ptr b4 0), (5, iV 0), (6, iV 0), (7, ptr b7 0), (18, ptr b2 0), (20, ptr b2 32), (23, ptr b2 33), (30, .slice (some ⟨b30, 0, none⟩) 1 1)]) (hOf [(0, ⟨false, b, q, 0, encs EntE L, 0⟩), (2, ⟨true, b2, 0, 40, [(key).map u8V, [iV next, .slice A n c]].flatten, 0⟩), (4, ⟨true, b4, 0, 40, [(List.replicate 32 0#8).map u8V, [iV 0, .slice none 0 0]].flatten, 0⟩), (7, ⟨true, b7, 0, 40, [(List.replicate 32 0#8).map u8V, [iV 0, .slice none 0 0]].flatten, 0⟩), (30, ⟨true, b30, 0, 96, encs EntE [mkEnt next psk], 0⟩)]) := by
     clear hG5_0 hG5_1 hG5_2 hG5_3 hG5_4 hG5_5 hG5_6 hG5_7 hG5_8 hG5_9 hG5_10 hG5_11 hG5_12 hG5_13 hG5_14 hG5_15 hG5_16 hG5_17 hG5_18 hG5_19 hG5_20 hG5_21 hG5_22 hG5_23 hG5_24 hG5_25 hG5_26 hG5_28 hG5_29 hG5_30 hG5_31 hG5_32 hG5_33 hG5_34 hG5_35 hG5_36 hG5_37 hG5_39 hG5_40 hG5_41 hG5_42 hG5_43 hG5_44 hG5_45 hG5_47 hG5_48 hG5_49 hG5_50 hG5_51 hG5_52 hG5_53 hG5_54 hG5_55 hG5_56 hG5_57 hG5_58 hG5_59 hG5_60 hG5_61 hG5_62 hG5_63 hG5_64 hG5_65 hG5_66
     refine hGo ?_
     refine At.bStep [1, 3, 6] (by kernel_rfl) (by simp) ?_
     refine ⟨?_, ?_, ?_⟩
     ·
      refine At.bSQ (some 19) (Q_loadN (k := 2) (j := 0) (cs := (key).map u8V) rfl rfl Try.underlying23 rfl sz23 rfl rfl rfl (seg_at (i := 0) rfl LN LN) LN) ?_
      exact At.into (hGi (hG5_38 b30 b7)) rfl rfl
     ·
      refine At.bSQ (some 21) (Q_loadO (k := 2) rfl rfl Try.underlying3 rfl rfl (seg_get (i := 1) (p := 0) rfl LN rfl)) ?_
      refine At.bP  4 (some 22) (P_add_i rfl rfl rfl (by omega)) (by kernel_rfl) (by kernel_rfl) ?_
      exact At.into (hGi (hG5_27 b30 b7)) rfl rfl
     ·
      refine At.bSQ (some 24) (Q_loadO (k := 2) rfl rfl Try.underlying38 rfl rfl (seg_get (i := 1) (p := 1) rfl LN rfl)) ?_
      exact At.into (hGi (hG5_46 b30 b7)) rfl rfl
    have hG5_68  : G 9 #[true, true, true, true, true, true, true, false, true, false, false, false, false, false, false, false, false] (frOf [(2, ptr b2 0), (3, ptr b3 0), (4, ptr b4 0), (5, iV 0), (6, iV 0), (19, aggK key), (22, iV (next + 1)), (24, .slice A n c), (26, ptr b2 32)]) (hOf [(0, ⟨false, b, q, 0, encs EntE L, 0⟩), (2, ⟨true, b2, 0, 40, [(key).map u8V, [iV next, .slice A n c]].flatten, 0⟩), (3, ⟨true, b3, 0, 23, (psk).map u8V, 0⟩), (4, ⟨true, b4, 0, 40, [(List.replicate 32 0#8).map u8V, [iV 0, .slice none 0 0]].flatten, 0⟩)]) := by
     clear hG5_0 hG5_1 hG5_2 hG5_3 hG5_4 hG5_5 hG5_6 hG5_7 hG5_8 hG5_9 hG5_10 hG5_11 hG5_12 hG5_13 hG5_14 hG5_15 hG5_16 hG5_17 hG5_18 hG5_19 hG5_20 hG5_21 hG5_22 hG5_23 hG5_24 hG5_25 hG5_26 hG5_27 hG5_28 hG5_29 hG5_30 hG5_31 hG5_32 hG5_33 hG5_34 hG5_35 hG5_36 hG5_37 hG5_38 hG5_39 hG5_40 hG5_41 hG5_42 hG5_43 hG5_44 hG5_45 hG5_46 hG5_51 hG5_52 hG5_53 hG5_54 hG5_55 hG5_56 hG5_57 hG5_58 hG5_59 hG5_60 hG5_61 hG5_62 hG5_63 hG5_64 hG5_65 hG5_66 hG5_67
     refine hGo ?_
     refine At.bStep [7, 9, 10, 15] (by kernel_rfl) (by simp) ?_
     refine ⟨?_, ?_, ?_, ?_⟩
     ·
      refine At.bS false (by kernel_rfl) (S_callV (some 25) [(0, _)] [25] (vs := [_]) rfl en58 rfl (VN (by simp) rfl View.all V0) (by simp) (c_CloneEn (L := L) (A := A) (n := n) (c := c) (b := b) (q := q) LN hA OG) (by rintro _ _ ⟨A25, b25, c25, g25a, g25b, rfl, rfl⟩; rfl) ?_)
      rintro _ _ ⟨A25, b25, c25, g25a, g25b, rfl, rfl⟩
      exact At.into (hGi (hG5_47 A25 b25 c25 g25a g25b)) rfl rfl
     ·
      refine At.bSQ (some 27) (Q_loadO (k := 2) rfl rfl Try.underlying3 rfl rfl (seg_get (i := 1) (p := 0) rfl LN rfl)) ?_
      exact At.into (hGi (hG5_48 )) rfl rfl
     ·
      refine At.bSQ (some 28) (Q_loadA (k := 3) rfl rfl Try.underlying23 rfl sz23 LN rfl) ?_
      exact At.into (hGi (hG5_49 )) rfl rfl
     ·
      refine At.bS false (by kernel_rfl) (S_alloc (some 7) 7 (zs := [(List.replicate 32 0#8).map u8V, [iV 0, .slice none 0 0]].flatten) rfl ze40 rfl (fun b7 => ?_))
      exact At.into (hGi (hG5_50 b7)) rfl rfl
    have hG5_69  : G 9 #[true, true, true, true, true, true, false, false, true, true, false, false, false, false, false, false, false] (frOf [(2, ptr b2 0), (3, ptr b3 0), (4, ptr b4 0), (5, iV 0), (6, iV 0), (19, aggK key), (22, iV (next + 1)), (23, ptr b2 33), (27, iV next)]) (hOf [(0, ⟨false, b, q, 0, encs EntE L, 0⟩), (2, ⟨true, b2, 0, 40, [(key).map u8V, [iV next, .slice A n c]].flatten, 0⟩), (3, ⟨true, b3, 0, 23, (psk).map u8V, 0⟩), (4, ⟨true, b4, 0, 40, [(List.replicate 32 0#8).map u8V, [iV 0, .slice none 0 0]].flatten, 0⟩)]) := by
     clear hG5_0 hG5_1 hG5_2 hG5_3 hG5_4 hG5_5 hG5_6 hG5_7 hG5_8 hG5_9 hG5_10 hG5_11 hG5_12 hG5_13 hG5_14 hG5_15 hG5_16 hG5_17 hG5_18 hG5_19 hG5_20 hG5_21 hG5_22 hG5_23 hG5_24 hG5_25 hG5_26 hG5_27 hG5_28 hG5_29 hG5_30 hG5_31 hG5_32 hG5_33 hG5_35 hG5_36 hG5_37 hG5_38 hG5_39 hG5_40 hG5_41 hG5_42 hG5_43 hG5_44 hG5_45 hG5_46 hG5_47 hG5_49 hG5_50 hG5_52 hG5_53 hG5_54 hG5_55 hG5_56 hG5_57 hG5_58 hG5_59 hG5_60 hG5_61 hG5_62 hG5_63 hG5_64 hG5_65 hG5_66 hG5_67 hG5_68
     refine hGo ?_
     refine At.bStep [6, 10, 15] (by kernel_rfl) (by simp) ?_
     refine ⟨?_, ?_, ?_⟩
     ·
      refine At.bSQ (some 24) (Q_loadO (k := 2) rfl rfl Try.underlying38 rfl rfl (seg_get (i := 1) (p := 1) rfl LN rfl)) ?_
      exact At.into (hGi (hG5_48 )) rfl rfl
     ·
      refine At.bSQ (some 28) (Q_loadA (k := 3) rfl rfl Try.underlying23 rfl sz23 LN rfl) ?_
      refine At.bP  11 (some 29) (P_build_struct (cs := ([[iV next], (psk).map u8V].flatten).toArray) (parts := _) (vs := [(0, _), (1, _)]) rfl Try.underlying96 ze96 pl96 rfl (by show Instr.fill _ ([[iV 0], (List.replicate 32 0#8).map u8V].flatten).toArray _ = _; refine fill_seg (k := 0) (vs := [iV next]) rfl rfl LN rfl LN LN ?_; refine fill_seg (k := 1) (vs := (psk).map u8V) rfl rfl LN rfl LN LN ?_; exact fill_end (by simp))) (by kernel_rfl) (by kernel_rfl) ?_
      exact At.into (hGi (hG5_34 )) rfl rfl
     ·
      refine At.bS false (by kernel_rfl) (S_alloc (some 7) 7 (zs := [(List.replicate 32 0#8).map u8V, [iV 0, .slice none 0 0]].flatten) rfl ze40 rfl (fun b7 => ?_))
      exact At.into (hGi (hG5_51 b7)) rfl rfl
    have hG5_70  : G 9 #[true, true, true, true, true, true, false, false, true, false, true, false, false, false, false, false, false] (frOf [(2, ptr b2 0), (4, ptr b4 0), (5, iV 0), (6, iV 0), (19, aggK key), (22, iV (next + 1)), (23, ptr b2 33), (26, ptr b2 32), (28, aggK psk)]) (hOf [(0, ⟨false, b, q, 0, encs EntE L, 0⟩), (2, ⟨true, b2, 0, 40, [(key).map u8V, [iV next, .slice A n c]].flatten, 0⟩), (4, ⟨true, b4, 0, 40, [(List.replicate 32 0#8).map u8V, [iV 0, .slice none 0 0]].flatten, 0⟩)]) := by
     clear hG5_0 hG5_1 hG5_2 hG5_3 hG5_4 hG5_5 hG5_6 hG5_7 hG5_8 hG5_9 hG5_10 hG5_11 hG5_12 hG5_13 hG5_14 hG5_15 hG5_16 hG5_17 hG5_18 hG5_19 hG5_20 hG5_21 hG5_22 hG5_23 hG5_24 hG5_25 hG5_26 hG5_27 hG5_28 hG5_29 hG5_30 hG5_31 hG5_32 hG5_33 hG5_35 hG5_36 hG5_37 hG5_38 hG5_39 hG5_40 hG5_41 hG5_42 hG5_43 hG5_44 hG5_45 hG5_46 hG5_47 hG5_48 hG5_50 hG5_51 hG5_53 hG5_54 hG5_55 hG5_56 hG5_57 hG5_58 hG5_59 hG5_60 hG5_61 hG5_62 hG5_63 hG5_64 hG5_65 hG5_66 hG5_67 hG5_68 hG5_69
     refine hGo ?_
     refine At.bStep [6, 9, 15] (by kernel_rfl) (by simp) ?_
     refine ⟨?_, ?_, ?_⟩
     ·
      refine At.bSQ (some 24) (Q_loadO (k := 2) rfl rfl Try.underlying38 rfl rfl (seg_get (i := 1) (p := 1) rfl LN rfl)) ?_
      exact At.into (hGi (hG5_49 )) rfl rfl
     ·
      refine At.bSQ (some 27) (Q_loadO (k := 2) rfl rfl Try.underlying3 rfl rfl (seg_get (i := 1) (p := 0) rfl LN rfl)) ?_
      refine At.bP  11 (some 29) (P_build_struct (cs := ([[iV next], (psk).map u8V].flatten).toArray) (parts := _) (vs := [(0, _), (1, _)]) rfl Try.underlying96 ze96 pl96 rfl (by show Instr.fill _ ([[iV 0], (List.replicate 32 0#8).map u8V].flatten).toArray _ = _; refine fill_seg (k := 0) (vs := [iV next]) rfl rfl LN rfl LN LN ?_; refine fill_seg (k := 1) (vs := (psk).map u8V) rfl rfl LN rfl LN LN ?_; exact fill_end (by simp))) (by kernel_rfl) (by kernel_rfl) ?_
      exact At.into (hGi (hG5_34 )) rfl rfl
     ·
      refine At.bS false (by kernel_rfl) (S_alloc (some 7) 7 (zs := [(List.replicate 32 0#8).map u8V, [iV 0, .slice none 0 0]].flatten) rfl ze40 rfl (fun b7 => ?_))
      exact At.into (hGi (hG5_52 b7)) rfl rfl
    have hG5_71 (b7 : Nat) : G 9 #[true, true, true, true, true, true, false, false, true, false, false, false, false, false, false, true, false] (frOf [(2, ptr b2 0), (3, ptr b3 0), (4, ptr b4 0), (5, iV 0), (6, iV 0), (7, ptr b7 0), (19, aggK key), (22, iV (next + 1)), (23, ptr b2 33), (26, ptr b2 32)]) (hOf [(0, ⟨false, b, q, 0, encs EntE L, 0⟩), (2, ⟨true, b2, 0, 40, [(key).map u8V, [iV next, .slice A n c]].flatten, 0⟩), (3, ⟨true, b3, 0, 23, (psk).map u8V, 0⟩), (4, ⟨true, b4, 0, 40, [(List.replicate 32 0#8).map u8V, [iV 0, .slice none 0 0]].flatten, 0⟩), (7, ⟨true, b7, 0, 40, [(List.replicate 32 0#8).map u8V, [iV 0, .slice none 0 0]].flatten, 0⟩)]) := by
     clear hG5_0 hG5_1 hG5_2 hG5_3 hG5_4 hG5_5 hG5_6 hG5_7 hG5_8 hG5_9 hG5_10 hG5_11 hG5_12 hG5_13 hG5_14 hG5_15 hG5_16 hG5_17 hG5_18 hG5_19 hG5_20 hG5_21 hG5_22 hG5_23 hG5_24 hG5_25 hG5_26 hG5_27 hG5_28 hG5_29 hG5_30 hG5_31 hG5_32 hG5_33 hG5_34 hG5_35 hG5_36 hG5_37 hG5_38 hG5_39 hG5_40 hG5_41 hG5_42 hG5_43 hG5_44 hG5_45 hG5_46 hG5_47 hG5_48 hG5_49 hG5_53 hG5_54 hG5_55 hG5_56 hG5_57 hG5_58 hG5_59 hG5_60 hG5_61 hG5_62 hG5_63 hG5_64 hG5_65 hG5_66 hG5_67 hG5_68 hG5_69 hG5_70
     refine hGo ?_
     refine At.bStep [6, 9, 10] (by kernel_rfl) (by simp) ?_
     refine ⟨?_, ?_, ?_⟩
     ·
      refine At.bSQ (some 24) (Q_loadO (k := 2) rfl rfl Try.underlying38 rfl rfl (seg_get (i := 1) (p := 1) rfl LN rfl)) ?_
      exact At.into (hGi (hG5_50 b7)) rfl rfl
     ·
      refine At.bSQ (some 27) (Q_loadO (k := 2) rfl rfl Try.underlying3 rfl rfl (seg_get (i := 1) (p := 0) rfl LN rfl)) ?_
      exact At.into (hGi (hG5_51 b7)) rfl rfl
     ·
      refine At.bSQ (some 28) (Q_loadA (k := 3) rfl rfl Try.underlying23 rfl sz23 LN rfl) ?_
      exact At.into (hGi (hG5_52 b7)) rfl rfl
    have hG5_72 (A25 : Option Addr) (b25 c25 : Nat) (g25a : 0 < c25 → A25 = some ⟨b25, 0, none⟩) (g25b : L.length ≤ c25) : G 9 #[true, true, true, false, false, true, true, true, true, true, false, false, false, false, false, false, false] (frOf [(2, ptr b2 0), (3, ptr b3 0), (4, ptr b4 0), (5, iV 0), (6, iV 0), (19, aggK key), (20, ptr b2 32), (25, .slice A25 L.length c25), (27, iV next)]) (hOf [(0, ⟨false, b, q, 0, encs EntE L, 0⟩), (2, ⟨true, b2, 0, 40, [(key).map u8V, [iV next, .slice A n c]].flatten, 0⟩), (3, ⟨true, b3, 0, 23, (psk).map u8V, 0⟩), (4, ⟨true, b4, 0, 40, [(List.replicate 32 0#8).map u8V, [iV 0, .slice none 0 0]].flatten, 0⟩), (25, ⟨true, b25, 0, 96, encs EntE L, (c25 - (L).length) * 33⟩)]) := by
     clear hG5_0 hG5_1 hG5_2 hG5_3 hG5_4 hG5_5 hG5_6 hG5_7 hG5_8 hG5_9 hG5_10 hG5_11 hG5_12 hG5_13 hG5_14 hG5_15 hG5_16 hG5_17 hG5_18 hG5_19 hG5_20 hG5_21 hG5_22 hG5_23 hG5_24 hG5_25 hG5_26 hG5_27 hG5_28 hG5_30 hG5_31 hG5_32 hG5_33 hG5_34 hG5_36 hG5_37 hG5_38 hG5_39 hG5_40 hG5_41 hG5_42 hG5_43 hG5_44 hG5_45 hG5_46 hG5_47 hG5_48 hG5_49 hG5_50 hG5_51 hG5_52 hG5_54 hG5_55 hG5_56 hG5_57 hG5_58 hG5_59 hG5_60 hG5_61 hG5_62 hG5_63 hG5_64 hG5_65 hG5_66 hG5_67 hG5_68 hG5_69 hG5_70 hG5_71
     refine hGo ?_
     refine At.bStep [3, 10, 15] (by kernel_rfl) (by simp) ?_
     refine ⟨?_, ?_, ?_⟩
     ·
      refine At.bSQ (some 21) (Q_loadO (k := 2) rfl rfl Try.underlying3 rfl rfl (seg_get (i := 1) (p := 0) rfl LN rfl)) ?_
      refine At.bP  4 (some 22) (P_add_i rfl rfl rfl (by omega)) (by kernel_rfl) (by kernel_rfl) ?_
      exact At.into (hGi (hG5_29 A25 b25 c25 g25a g25b)) rfl rfl
     ·
      refine At.bSQ (some 28) (Q_loadA (k := 3) rfl rfl Try.underlying23 rfl sz23 LN rfl) ?_
      refine At.bP  11 (some 29) (P_build_struct (cs := ([[iV next], (psk).map u8V].flatten).toArray) (parts := _) (vs := [(0, _), (1, _)]) rfl Try.underlying96 ze96 pl96 rfl (by show Instr.fill _ ([[iV 0], (List.replicate 32 0#8).map u8V].flatten).toArray _ = _; refine fill_seg (k := 0) (vs := [iV next]) rfl rfl LN rfl LN LN ?_; refine fill_seg (k := 1) (vs := (psk).map u8V) rfl rfl LN rfl LN LN ?_; exact fill_end (by simp))) (by kernel_rfl) (by kernel_rfl) ?_
      exact At.into (hGi (hG5_35 A25 b25 c25 g25a g25b)) rfl rfl
     ·
      refine At.bS false (by kernel_rfl) (S_alloc (some 7) 7 (zs := [(List.replicate 32 0#8).map u8V, [iV 0, .slice none 0 0]].flatten) rfl ze40 rfl (fun b7 => ?_))
      exact At.into (hGi (hG5_53 A25 b25 c25 b7 g25a g25b)) rfl rfl
    have hG5_73 (A25 : Option Addr) (b25 c25 : Nat) (g25a : 0 < c25 → A25 = some ⟨b25, 0, none⟩) (g25b : L.length ≤ c25) : G 9 #[true, true, true, false, false, true, true, true, true, false, true, false, false, false, false, false, false] (frOf [(2, ptr b2 0), (4, ptr b4 0), (5, iV 0), (6, iV 0), (19, aggK key), (20, ptr b2 32), (25, .slice A25 L.length c25), (26, ptr b2 32), (28, aggK psk)]) (hOf [(0, ⟨false, b, q, 0, encs EntE L, 0⟩), (2, ⟨true, b2, 0, 40, [(key).map u8V, [iV next, .slice A n c]].flatten, 0⟩), (4, ⟨true, b4, 0, 40, [(List.replicate 32 0#8).map u8V, [iV 0, .slice none 0 0]].flatten, 0⟩), (25, ⟨true, b25, 0, 96, encs EntE L, (c25 - (L).length) * 33⟩)]) := by
     clear hG5_0 hG5_1 hG5_2 hG5_3 hG5_4 hG5_5 hG5_6 hG5_7 hG5_8 hG5_9 hG5_10 hG5_11 hG5_12 hG5_13 hG5_14 hG5_15 hG5_16 hG5_17 hG5_18 hG5_19 hG5_20 hG5_21 hG5_22 hG5_23 hG5_24 hG5_25 hG5_26 hG5_27 hG5_28 hG5_29 hG5_31 hG5_32 hG5_33 hG5_34 hG5_36 hG5_37 hG5_38 hG5_39 hG5_40 hG5_41 hG5_42 hG5_43 hG5_44 hG5_45 hG5_46 hG5_47 hG5_48 hG5_49 hG5_50 hG5_51 hG5_52 hG5_53 hG5_55 hG5_56 hG5_57 hG5_58 hG5_59 hG5_60 hG5_61 hG5_62 hG5_63 hG5_64 hG5_65 hG5_66 hG5_67 hG5_68 hG5_69 hG5_70 hG5_71 hG5_72
     refine hGo ?_
     refine At.bStep [3, 9, 15] (by kernel_rfl) (by simp) ?_
     refine ⟨?_, ?_, ?_⟩
     ·
      refine At.bSQ (some 21) (Q_loadO (k := 2) rfl rfl Try.underlying3 rfl rfl (seg_get (i := 1) (p := 0) rfl LN rfl)) ?_
      refine At.bP  4 (some 22) (P_add_i rfl rfl rfl (by omega)) (by kernel_rfl) (by kernel_rfl) ?_
      exact At.into (hGi (hG5_30 A25 b25 c25 g25a g25b)) rfl rfl
     ·
      refine At.bSQ (some 27) (Q_loadO (k := 2) rfl rfl Try.underlying3 rfl rfl (seg_get (i := 1) (p := 0) rfl LN rfl)) ?_
      refine At.bP  11 (some 29) (P_build_struct (cs := ([[iV next], (psk).map u8V].flatten).toArray) (parts := _) (vs := [(0, _), (1, _)]) rfl Try.underlying96 ze96 pl96 rfl (by show Instr.fill _ ([[iV 0], (List.replicate 32 0#8).map u8V].flatten).toArray _ = _; refine fill_seg (k := 0) (vs := [iV next]) rfl rfl LN rfl LN LN ?_; refine fill_seg (k := 1) (vs := (psk).map u8V) rfl rfl LN rfl LN LN ?_; exact fill_end (by simp))) (by kernel_rfl) (by kernel_rfl) ?_
      exact At.into (hGi (hG5_35 A25 b25 c25 g25a g25b)) rfl rfl
     ·
      refine At.bS false (by kernel_rfl) (S_alloc (some 7) 7 (zs := [(List.replicate 32 0#8).map u8V, [iV 0, .slice none 0 0]].flatten) rfl ze40 rfl (fun b7 => ?_))
      exact At.into (hGi (hG5_54 A25 b25 c25 b7 g25a g25b)) rfl rfl
    have hG5_74 (A25 : Option Addr) (b25 c25 : Nat) (b7 : Nat) (g25a : 0 < c25 → A25 = some ⟨b25, 0, none⟩) (g25b : L.length ≤ c25) : G 9 #[true, true, true, false, false, true, true, true, true, false, false, false, false, false, false, true, false] (frOf [(2, ptr b2 0), (3, ptr b3 0), (4, ptr b4 0), (5, iV 0), (6, iV 0), (7, ptr b7 0), (19, aggK key), (20, ptr b2 32), (25, .slice A25 L.length c25), (26, ptr b2 32)]) (hOf [(0, ⟨false, b, q, 0, encs EntE L, 0⟩), (2, ⟨true, b2, 0, 40, [(key).map u8V, [iV next, .slice A n c]].flatten, 0⟩), (3, ⟨true, b3, 0, 23, (psk).map u8V, 0⟩), (4, ⟨true, b4, 0, 40, [(List.replicate 32 0#8).map u8V, [iV 0, .slice none 0 0]].flatten, 0⟩), (7, ⟨true, b7, 0, 40, [(List.replicate 32 0#8).map u8V, [iV 0, .slice none 0 0]].flatten, 0⟩), (25, ⟨true, b25, 0, 96, encs EntE L, (c25 - (L).length) * 33⟩)]) := by
     clear hG5_0 hG5_1 hG5_2 hG5_3 hG5_4 hG5_5 hG5_6 hG5_7 hG5_8 hG5_9 hG5_10 hG5_11 hG5_12 hG5_13 hG5_14 hG5_15 hG5_16 hG5_17 hG5_18 hG5_19 hG5_20 hG5_21 hG5_22 hG5_23 hG5_24 hG5_25 hG5_26 hG5_27 hG5_28 hG5_29 hG5_30 hG5_32 hG5_33 hG5_34 hG5_35 hG5_36 hG5_37 hG5_38 hG5_39 hG5_40 hG5_41 hG5_42 hG5_43 hG5_44 hG5_45 hG5_46 hG5_47 hG5_48 hG5_49 hG5_50 hG5_51 hG5_52 hG5_55 hG5_56 hG5_57 hG5_58 hG5_59 hG5_60 hG5_61 hG5_62 hG5_63 hG5_64 hG5_65 hG5_66 hG5_67 hG5_68 hG5_69 hG5_70 hG5_71 hG5_72 hG5_73
     refine hGo ?_
     refine At.bStep [3, 9, 10] (by kernel_rfl) (by simp) ?_
     refine ⟨?_, ?_, ?_⟩
     ·
      refine At.bSQ (some 21) (Q_loadO (k := 2) rfl rfl Try.underlying3 rfl rfl (seg_get (i := 1) (p := 0) rfl LN rfl)) ?_
      refine At.bP  4 (some 22) (P_add_i rfl rfl rfl (by omega)) (by kernel_rfl) (by kernel_rfl) ?_
      exact At.into (hGi (hG5_31 A25 b25 c25 b7 g25a g25b)) rfl rfl
     ·
      refine At.bSQ (some 27) (Q_loadO (k := 2) rfl rfl Try.underlying3 rfl rfl (seg_get (i := 1) (p := 0) rfl LN rfl)) ?_
      exact At.into (hGi (hG5_53 A25 b25 c25 b7 g25a g25b)) rfl rfl
     ·
      refine At.bSQ (some 28) (Q_loadA (k := 3) rfl rfl Try.underlying23 rfl sz23 LN rfl) ?_
      exact At.into (hGi (hG5_54 A25 b25 c25 b7 g25a g25b)) rfl rfl
    have hG5_75 (b7 : Nat) : G 9 #[true, true, true, false, false, true, true, false, true, true, false, false, false, false, false, true, false] (frOf [(2, ptr b2 0), (3, ptr b3 0), (4, ptr b4 0), (5, iV 0), (6, iV 0), (7, ptr b7 0), (19, aggK key), (20, ptr b2 32), (24, .slice A n c), (27, iV next)]) (hOf [(0, ⟨false, b, q, 0, encs EntE L, 0⟩), (2, ⟨true, b2, 0, 40, [(key).map u8V, [iV next, .slice A n c]].flatten, 0⟩), (3, ⟨true, b3, 0, 23, (psk).map u8V, 0⟩), (4, ⟨true, b4, 0, 40, [(List.replicate 32 0#8).map u8V, [iV 0, .slice none 0 0]].flatten, 0⟩), (7, ⟨true, b7, 0, 40, [(List.replicate 32 0#8).map u8V, [iV 0, .slice none 0 0]].flatten, 0⟩)]) := by
     clear hG5_0 hG5_1 hG5_2 hG5_3 hG5_4 hG5_5 hG5_6 hG5_7 hG5_8 hG5_9 hG5_10 hG5_11 hG5_12 hG5_13 hG5_14 hG5_15 hG5_16 hG5_17 hG5_18 hG5_19 hG5_20 hG5_21 hG5_22 hG5_23 hG5_24 hG5_25 hG5_26 hG5_27 hG5_28 hG5_29 hG5_30 hG5_31 hG5_33 hG5_34 hG5_35 hG5_36 hG5_38 hG5_39 hG5_40 hG5_41 hG5_42 hG5_43 hG5_44 hG5_45 hG5_46 hG5_47 hG5_48 hG5_49 hG5_50 hG5_51 hG5_52 hG5_54 hG5_55 hG5_56 hG5_57 hG5_58 hG5_59 hG5_60 hG5_61 hG5_62 hG5_63 hG5_64 hG5_65 hG5_66 hG5_67 hG5_68 hG5_69 hG5_70 hG5_71 hG5_72 hG5_73 hG5_74
     refine hGo ?_
     refine At.bStep [3, 7, 10] (by kernel_rfl) (by simp) ?_
     refine ⟨?_, ?_, ?_⟩
     ·
      refine At.bSQ (some 21) (Q_loadO (k := 2) rfl rfl Try.underlying3 rfl rfl (seg_get (i := 1) (p := 0) rfl LN rfl)) ?_
      refine At.bP  4 (some 22) (P_add_i rfl rfl rfl (by omega)) (by kernel_rfl) (by kernel_rfl) ?_
      exact At.into (hGi (hG5_32 b7)) rfl rfl
     ·
      refine At.bS false (by kernel_rfl) (S_callV (some 25) [(0, _)] [25] (vs := [_]) rfl en58 rfl (VN (by simp) rfl View.all V0) (by simp) (c_CloneEn (L := L) (A := A) (n := n) (c := c) (b := b) (q := q) LN hA OG) (by rintro _ _ ⟨A25, b25, c25, g25a, g25b, rfl, rfl⟩; rfl) ?_)
      rintro _ _ ⟨A25, b25, c25, g25a, g25b, rfl, rfl⟩
      exact At.into (hGi (hG5_53 A25 b25 c25 b7 g25a g25b)) rfl rfl
     ·
      refine At.bSQ (some 28) (Q_loadA (k := 3) rfl rfl Try.underlying23 rfl sz23 LN rfl) ?_
      refine At.bP  11 (some 29) (P_build_struct (cs := ([[iV next], (psk).map u8V].flatten).toArray) (parts := _) (vs := [(0, _), (1, _)]) rfl Try.underlying96 ze96 pl96 rfl (by show Instr.fill _ ([[iV 0], (List.replicate 32 0#8).map u8V].flatten).toArray _ = _; refine fill_seg (k := 0) (vs := [iV next]) rfl rfl LN rfl LN LN ?_; refine fill_seg (k := 1) (vs := (psk).map u8V) rfl rfl LN rfl LN LN ?_; exact fill_end (by simp))) (by kernel_rfl) (by kernel_rfl) ?_
      exact At.into (hGi (hG5_37 b7)) rfl rfl
    have hG5_76 (b7 : Nat) : G 9 #[true, true, true, false, false, true, true, false, true, false, true, false, false, false, false, true, false] (frOf [(2, ptr b2 0), (4, ptr b4 0), (5, iV 0), (6, iV 0), (7, ptr b7 0), (19, aggK key), (20, ptr b2 32), (24, .slice A n c), (26, ptr b2 32), (28, aggK psk)]) (hOf [(0, ⟨false, b, q, 0, encs EntE L, 0⟩), (2, ⟨true, b2, 0, 40, [(key).map u8V, [iV next, .slice A n c]].flatten, 0⟩), (4, ⟨true, b4, 0, 40, [(List.replicate 32 0#8).map u8V, [iV 0, .slice none 0 0]].flatten, 0⟩), (7, ⟨true, b7, 0, 40, [(List.replicate 32 0#8).map u8V, [iV 0, .slice none 0 0]].flatten, 0⟩)]) := by
     clear hG5_0 hG5_1 hG5_2 hG5_3 hG5_4 hG5_5 hG5_6 hG5_7 hG5_8 hG5_9 hG5_10 hG5_11 hG5_12 hG5_13 hG5_14 hG5_15 hG5_16 hG5_17 hG5_18 hG5_19 hG5_20 hG5_21 hG5_22 hG5_23 hG5_24 hG5_25 hG5_26 hG5_27 hG5_28 hG5_29 hG5_30 hG5_31 hG5_32 hG5_34 hG5_35 hG5_36 hG5_38 hG5_39 hG5_40 hG5_41 hG5_42 hG5_43 hG5_44 hG5_45 hG5_46 hG5_47 hG5_48 hG5_49 hG5_50 hG5_51 hG5_52 hG5_53 hG5_55 hG5_56 hG5_57 hG5_58 hG5_59 hG5_60 hG5_61 hG5_62 hG5_63 hG5_64 hG5_65 hG5_66 hG5_67 hG5_68 hG5_69 hG5_70 hG5_71 hG5_72 hG5_73 hG5_74 hG5_75
     refine hGo ?_
     refine At.bStep [3, 7, 9] (by kernel_rfl) (by simp) ?_
     refine ⟨?_, ?_, ?_⟩
     ·
      refine At.bSQ (some 21) (Q_loadO (k := 2) rfl rfl Try.underlying3 rfl rfl (seg_get (i := 1) (p := 0) rfl LN rfl)) ?_
      refine At.bP  4 (some 22) (P_add_i rfl rfl rfl (by omega)) (by kernel_rfl) (by kernel_rfl) ?_
      exact At.into (hGi (hG5_33 b7)) rfl rfl
     ·
      refine At.bS false (by kernel_rfl) (S_callV (some 25) [(0, _)] [25] (vs := [_]) rfl en58 rfl (VN (by simp) rfl View.all V0) (by simp) (c_CloneEn (L := L) (A := A) (n := n) (c := c) (b := b) (q := q) LN hA OG) (by rintro _ _ ⟨A25, b25, c25, g25a, g25b, rfl, rfl⟩; rfl) ?_)
      rintro _ _ ⟨A25, b25, c25, g25a, g25b, rfl, rfl⟩
      exact At.into (hGi (hG5_54 A25 b25 c25 b7 g25a g25b)) rfl rfl
     ·
      refine At.bSQ (some 27) (Q_loadO (k := 2) rfl rfl Try.underlying3 rfl rfl (seg_get (i := 1) (p := 0) rfl LN rfl)) ?_
      refine At.bP  11 (some 29) (P_build_struct (cs := ([[iV next], (psk).map u8V].flatten).toArray) (parts := _) (vs := [(0, _), (1, _)]) rfl Try.underlying96 ze96 pl96 rfl (by show Instr.fill _ ([[iV 0], (List.replicate 32 0#8).map u8V].flatten).toArray _ = _; refine fill_seg (k := 0) (vs := [iV next]) rfl rfl LN rfl LN LN ?_; refine fill_seg (k := 1) (vs := (psk).map u8V) rfl rfl LN rfl LN LN ?_; exact fill_end (by simp))) (by kernel_rfl) (by kernel_rfl) ?_
      exact At.into (hGi (hG5_37 b7)) rfl rfl
    have hG5_77  : G 9 #[true, true, true, false, false, true, false, false, true, true, true, true, false, false, false, false, false] (frOf [(2, ptr b2 0), (4, ptr b4 0), (5, iV 0), (6, iV 0), (19, aggK key), (20, ptr b2 32), (23, ptr b2 33), (29, .agg ([[iV next], (psk).map u8V].flatten).toArray)]) (hOf [(0, ⟨false, b, q, 0, encs EntE L, 0⟩), (2, ⟨true, b2, 0, 40, [(key).map u8V, [iV next, .slice A n c]].flatten, 0⟩), (4, ⟨true, b4, 0, 40, [(List.replicate 32 0#8).map u8V, [iV 0, .slice none 0 0]].flatten, 0⟩)]) := by
     clear hG5_0 hG5_1 hG5_2 hG5_3 hG5_4 hG5_5 hG5_6 hG5_7 hG5_8 hG5_9 hG5_10 hG5_11 hG5_12 hG5_13 hG5_14 hG5_15 hG5_16 hG5_17 hG5_18 hG5_19 hG5_20 hG5_21 hG5_22 hG5_23 hG5_24 hG5_25 hG5_26 hG5_27 hG5_28 hG5_29 hG5_30 hG5_31 hG5_32 hG5_33 hG5_35 hG5_36 hG5_37 hG5_38 hG5_39 hG5_40 hG5_41 hG5_42 hG5_43 hG5_44 hG5_45 hG5_46 hG5_47 hG5_48 hG5_49 hG5_50 hG5_51 hG5_52 hG5_53 hG5_54 hG5_58 hG5_59 hG5_60 hG5_61 hG5_62 hG5_63 hG5_64 hG5_65 hG5_66 hG5_67 hG5_68 hG5_69 hG5_70 hG5_71 hG5_72 hG5_73 hG5_74 hG5_75 hG5_76
     refine hGo ?_
     refine At.bStep [3, 6, 12, 15] (by kernel_rfl) (by simp) ?_
     refine ⟨?_, ?_, ?_, ?_⟩
     ·
      refine At.bSQ (some 21) (Q_loadO (k := 2) rfl rfl Try.underlying3 rfl rfl (seg_get (i := 1) (p := 0) rfl LN rfl)) ?_
      refine At.bP  4 (some 22) (P_add_i rfl rfl rfl (by omega)) (by kernel_rfl) (by kernel_rfl) ?_
      exact At.into (hGi (hG5_34 )) rfl rfl
     ·
      refine At.bSQ (some 24) (Q_loadO (k := 2) rfl rfl Try.underlying38 rfl rfl (seg_get (i := 1) (p := 1) rfl LN rfl)) ?_
      exact At.into (hGi (hG5_55 )) rfl rfl
     ·
      refine At.bS false (by kernel_rfl) (S_buildSliceE (some 30) 30 (cs := [[iV next], (psk).map u8V].flatten) rfl Try.underlying38 sz96 ze96 rfl rfl LN (by decide) (by decide) (fun b30 => ?_))
      refine At.row 30 (⟨true, b30, 0, 96, encs EntE [mkEnt next psk], 0⟩) rfl (ent_row LN) ?_
      exact At.into (hGi (hG5_56 b30)) rfl rfl
     ·
      refine At.bS false (by kernel_rfl) (S_alloc (some 7) 7 (zs := [(List.replicate 32 0#8).map u8V, [iV 0, .slice none 0 0]].flatten) rfl ze40 rfl (fun b7 => ?_))
      exact At.into (hGi (hG5_57 b7)) rfl rfl
    have hG5_78 (A25 : Option Addr) (b25 c25 : Nat) (g25a : 0 < c25 → A25 = some ⟨b25, 0, none⟩) (g25b : L.length ≤ c25) : G 9 #[true, false, true, true, true, true, true, true, true, false, false, false, false, false, false, false, false] (frOf [(2, ptr b2 0), (3, ptr b3 0), (4, ptr b4 0), (5, iV 0), (6, iV 0), (18, ptr b2 0), (22, iV (next + 1)), (25, .slice A25 L.length c25), (26, ptr b2 32)]) (hOf [(0, ⟨false, b, q, 0, encs EntE L, 0⟩), (2, ⟨true, b2, 0, 40, [(key).map u8V, [iV next, .slice A n c]].flatten, 0⟩), (3, ⟨true, b3, 0, 23, (psk).map u8V, 0⟩), (4, ⟨true, b4, 0, 40, [(List.replicate 32 0#8).map u8V, [iV 0, .slice none 0 0]].flatten, 0⟩), (25, ⟨true, b25, 0, 96, encs EntE L, (c25 - (L).length) * 33⟩)]) := by
     clear hG5_0 hG5_1 hG5_2 hG5_3 hG5_4 hG5_5 hG5_6 hG5_7 hG5_8 hG5_9 hG5_10 hG5_11 hG5_12 hG5_13 hG5_14 hG5_15 hG5_16 hG5_17 hG5_18 hG5_19 hG5_20 hG5_21 hG5_22 hG5_23 hG5_24 hG5_25 hG5_26 hG5_27 hG5_28 hG5_29 hG5_30 hG5_31 hG5_32 hG5_33 hG5_34 hG5_35 hG5_36 hG5_37 hG5_38 hG5_39 hG5_40 hG5_41 hG5_42 hG5_43 hG5_44 hG5_45 hG5_46 hG5_48 hG5_49 hG5_50 hG5_51 hG5_52 hG5_53 hG5_54 hG5_55 hG5_56 hG5_57 hG5_61 hG5_62 hG5_63 hG5_64 hG5_65 hG5_66 hG5_67 hG5_68 hG5_69 hG5_70 hG5_71 hG5_72 hG5_73 hG5_74 hG5_75 hG5_76 hG5_77
     refine hGo ?_
     refine At.bStep [1, 9, 10, 15] (by kernel_rfl) (by simp) ?_
     refine ⟨?_, ?_, ?_, ?_⟩
     ·
      refine At.bSQ (some 19) (Q_loadN (k := 2) (j := 0) (cs := (key).map u8V) rfl rfl Try.underlying23 rfl sz23 rfl rfl rfl (seg_at (i := 0) rfl LN LN) LN) ?_
      exact At.into (hGi (hG5_47 A25 b25 c25 g25a g25b)) rfl rfl
     ·
      refine At.bSQ (some 27) (Q_loadO (k := 2) rfl rfl Try.underlying3 rfl rfl (seg_get (i := 1) (p := 0) rfl LN rfl)) ?_
      exact At.into (hGi (hG5_58 A25 b25 c25 g25a g25b)) rfl rfl
     ·
      refine At.bSQ (some 28) (Q_loadA (k := 3) rfl rfl Try.underlying23 rfl sz23 LN rfl) ?_
      exact At.into (hGi (hG5_59 A25 b25 c25 g25a g25b)) rfl rfl
     ·
      refine At.bS false (by kernel_rfl) (S_alloc (some 7) 7 (zs := [(List.replicate 32 0#8).map u8V, [iV 0, .slice none 0 0]].flatten) rfl ze40 rfl (fun b7 => ?_))
      exact At.into (hGi (hG5_60 A25 b25 c25 b7 g25a g25b)) rfl rfl
    have hG5_79  : G 9 #[true, false, true, true, true, true, true, false, true, true, false, false, false, false, false, false, false] (frOf [(2, ptr b2 0), (3, ptr b3 0), (4, ptr b4 0), (5, iV 0), (6, iV 0), (18, ptr b2 0), (22, iV (next + 1)), (24, .slice A n c), (27, iV next)]) (hOf [(0, ⟨false, b, q, 0, encs EntE L, 0⟩), (2, ⟨true, b2, 0, 40, [(key).map u8V, [iV next, .slice A n c]].flatten, 0⟩), (3, ⟨true, b3, 0, 23, (psk).map u8V, 0⟩), (4, ⟨true, b4, 0, 40, [(List.replicate 32 0#8).map u8V, [iV 0, .slice none 0 0]].flatten, 0⟩)]) := by
     clear hG5_0 hG5_1 hG5_2 hG5_3 hG5_4 hG5_5 hG5_6 hG5_7 hG5_8 hG5_9 hG5_10 hG5_11 hG5_12 hG5_13 hG5_14 hG5_15 hG5_16 hG5_17 hG5_18 hG5_19 hG5_20 hG5_21 hG5_22 hG5_23 hG5_24 hG5_25 hG5_26 hG5_27 hG5_28 hG5_29 hG5_30 hG5_31 hG5_32 hG5_33 hG5_34 hG5_35 hG5_36 hG5_37 hG5_38 hG5_39 hG5_40 hG5_42 hG5_43 hG5_44 hG5_45 hG5_46 hG5_47 hG5_49 hG5_50 hG5_51 hG5_52 hG5_53 hG5_54 hG5_55 hG5_56 hG5_57 hG5_59 hG5_60 hG5_62 hG5_63 hG5_64 hG5_65 hG5_66 hG5_67 hG5_68 hG5_69 hG5_70 hG5_71 hG5_72 hG5_73 hG5_74 hG5_75 hG5_76 hG5_77 hG5_78
     refine hGo ?_
     refine At.bStep [1, 7, 10, 15] (by kernel_rfl) (by simp) ?_
     refine ⟨?_, ?_, ?_, ?_⟩
     ·
      refine At.bSQ (some 19) (Q_loadN (k := 2) (j := 0) (cs := (key).map u8V) rfl rfl Try.underlying23 rfl sz23 rfl rfl rfl (seg_at (i := 0) rfl LN LN) LN) ?_
      exact At.into (hGi (hG5_48 )) rfl rfl
     ·
      refine At.bS false (by kernel_rfl) (S_callV (some 25) [(0, _)] [25] (vs := [_]) rfl en58 rfl (VN (by simp) rfl View.all V0) (by simp) (c_CloneEn (L := L) (A := A) (n := n) (c := c) (b := b) (q := q) LN hA OG) (by rintro _ _ ⟨A25, b25, c25, g25a, g25b, rfl, rfl⟩; rfl) ?_)
      rintro _ _ ⟨A25, b25, c25, g25a, g25b, rfl, rfl⟩
      exact At.into (hGi (hG5_58 A25 b25 c25 g25a g25b)) rfl rfl
     ·
      refine At.bSQ (some 28) (Q_loadA (k := 3) rfl rfl Try.underlying23 rfl sz23 LN rfl) ?_
      refine At.bP  11 (some 29) (P_build_struct (cs := ([[iV next], (psk).map u8V].flatten).toArray) (parts := _) (vs := [(0, _), (1, _)]) rfl Try.underlying96 ze96 pl96 rfl (by show Instr.fill _ ([[iV 0], (List.replicate 32 0#8).map u8V].flatten).toArray _ = _; refine fill_seg (k := 0) (vs := [iV next]) rfl rfl LN rfl LN LN ?_; refine fill_seg (k := 1) (vs := (psk).map u8V) rfl rfl LN rfl LN LN ?_; exact fill_end (by simp))) (by kernel_rfl) (by kernel_rfl) ?_
      exact At.into (hGi (hG5_41 )) rfl rfl
     ·
      refine At.bS false (by kernel_rfl) (S_alloc (some 7) 7 (zs := [(List.replicate 32 0#8).map u8V, [iV 0, .slice none 0 0]].flatten) rfl ze40 rfl (fun b7 => ?_))
      exact At.into (hGi (hG5_61 b7)) rfl rfl
    have hG5_80  : G 9 #[true, false, true, true, true, true, true, false, true, false, true, false, false, false, false, false, false] (frOf [(2, ptr b2 0), (4, ptr b4 0), (5, iV 0), (6, iV 0), (18, ptr b2 0), (22, iV (next + 1)), (24, .slice A n c), (26, ptr b2 32), (28, aggK psk)]) (hOf [(0, ⟨false, b, q, 0, encs EntE L, 0⟩), (2, ⟨true, b2, 0, 40, [(key).map u8V, [iV next, .slice A n c]].flatten, 0⟩), (4, ⟨true, b4, 0, 40, [(List.replicate 32 0#8).map u8V, [iV 0, .slice none 0 0]].flatten, 0⟩)]) := by
     clear hG5_0 hG5_1 hG5_2 hG5_3 hG5_4 hG5_5 hG5_6 hG5_7 hG5_8 hG5_9 hG5_10 hG5_11 hG5_12 hG5_13 hG5_14 hG5_15 hG5_16 hG5_17 hG5_18 hG5_19 hG5_20 hG5_21 hG5_22 hG5_23 hG5_24 hG5_25 hG5_26 hG5_27 hG5_28 hG5_29 hG5_30 hG5_31 hG5_32 hG5_33 hG5_34 hG5_35 hG5_36 hG5_37 hG5_38 hG5_39 hG5_40 hG5_42 hG5_43 hG5_44 hG5_45 hG5_46 hG5_47 hG5_48 hG5_50 hG5_51 hG5_52 hG5_53 hG5_54 hG5_55 hG5_56 hG5_57 hG5_58 hG5_60 hG5_61 hG5_63 hG5_64 hG5_65 hG5_66 hG5_67 hG5_68 hG5_69 hG5_70 hG5_71 hG5_72 hG5_73 hG5_74 hG5_75 hG5_76 hG5_77 hG5_78 hG5_79
     refine hGo ?_
     refine At.bStep [1, 7, 9, 15] (by kernel_rfl) (by simp) ?_
     refine ⟨?_, ?_, ?_, ?_⟩
     ·
      refine At.bSQ (some 19) (Q_loadN (k := 2) (j := 0) (cs := (key).map u8V) rfl rfl Try.underlying23 rfl sz23 rfl rfl rfl (seg_at (i := 0) rfl LN LN) LN) ?_
      exact At.into (hGi (hG5_49 )) rfl rfl
     ·
      refine At.bS false (by kernel_rfl) (S_callV (some 25) [(0, _)] [25] (vs := [_]) rfl en58 rfl (VN (by simp) rfl View.all V0) (by simp) (c_CloneEn (L := L) (A := A) (n := n) (c := c) (b := b) (q := q) LN hA OG) (by rintro _ _ ⟨A25, b25, c25, g25a, g25b, rfl, rfl⟩; rfl) ?_)
      rintro _ _ ⟨A25, b25, c25, g25a, g25b, rfl, rfl⟩
      exact At.into (hGi (hG5_59 A25 b25 c25 g25a g25b)) rfl rfl
     ·
      refine At.bSQ (some 27) (Q_loadO (k := 2) rfl rfl Try.underlying3 rfl rfl (seg_get (i := 1) (p := 0) rfl LN rfl)) ?_
      refine At.bP  11 (some 29) (P_build_struct (cs := ([[iV next], (psk).map u8V].flatten).toArray) (parts := _) (vs := [(0, _), (1, _)]) rfl Try.underlying96 ze96 pl96 rfl (by show Instr.fill _ ([[iV 0], (List.replicate 32 0#8).map u8V].flatten).toArray _ = _; refine fill_seg (k := 0) (vs := [iV next]) rfl rfl LN rfl LN LN ?_; refine fill_seg (k := 1) (vs := (psk).map u8V) rfl rfl LN rfl LN LN ?_; exact fill_end (by simp))) (by kernel_rfl) (by kernel_rfl) ?_
      exact At.into (hGi (hG5_41 )) rfl rfl
     ·
      refine At.bS false (by kernel_rfl) (S_alloc (some 7) 7 (zs := [(List.replicate 32 0#8).map u8V, [iV 0, .slice none 0 0]].flatten) rfl ze40 rfl (fun b7 => ?_))
      exact At.into (hGi (hG5_62 b7)) rfl rfl
    have hG5_81 (b7 : Nat) : G 9 #[true, false, true, true, true, true, true, false, true, false, false, false, false, false, false, true, false] (frOf [(2, ptr b2 0), (3, ptr b3 0), (4, ptr b4 0), (5, iV 0), (6, iV 0), (7, ptr b7 0), (18, ptr b2 0), (22, iV (next + 1)), (24, .slice A n c), (26, ptr b2 32)]) (hOf [(0, ⟨false, b, q, 0, encs EntE L, 0⟩), (2, ⟨true, b2, 0, 40, [(key).map u8V, [iV next, .slice A n c]].flatten, 0⟩), (3, ⟨true, b3, 0, 23, (psk).map u8V, 0⟩), (4, ⟨true, b4, 0, 40, [(List.replicate 32 0#8).map u8V, [iV 0, .slice none 0 0]].flatten, 0⟩), (7, ⟨true, b7, 0, 40, [(List.replicate 32 0#8).map u8V, [iV 0, .slice none 0 0]].flatten, 0⟩)]) := by
     clear hG5_0 hG5_1 hG5_2 hG5_3 hG5_4 hG5_5 hG5_6 hG5_7 hG5_8 hG5_9 hG5_10 hG5_11 hG5_12 hG5_13 hG5_14 hG5_15 hG5_16 hG5_17 hG5_18 hG5_19 hG5_20 hG5_21 hG5_22 hG5_23 hG5_24 hG5_25 hG5_26 hG5_27 hG5_28 hG5_29 hG5_30 hG5_31 hG5_32 hG5_33 hG5_34 hG5_35 hG5_36 hG5_37 hG5_38 hG5_39 hG5_40 hG5_41 hG5_42 hG5_43 hG5_44 hG5_45 hG5_46 hG5_47 hG5_48 hG5_49 hG5_51 hG5_52 hG5_53 hG5_54 hG5_55 hG5_56 hG5_57 hG5_58 hG5_59 hG5_63 hG5_64 hG5_65 hG5_66 hG5_67 hG5_68 hG5_69 hG5_70 hG5_71 hG5_72 hG5_73 hG5_74 hG5_75 hG5_76 hG5_77 hG5_78 hG5_79 hG5_80
     refine hGo ?_
     refine At.bStep [1, 7, 9, 10] (by kernel_rfl) (by simp) ?_
     refine ⟨?_, ?_, ?_, ?_⟩
     ·
      refine At.bSQ (some 19) (Q_loadN (k := 2) (j := 0) (cs := (key).map u8V) rfl rfl Try.underlying23 rfl sz23 rfl rfl rfl (seg_at (i := 0) rfl LN LN) LN) ?_
      exact At.into (hGi (hG5_50 b7)) rfl rfl
     ·
      refine At.bS false (by kernel_rfl) (S_callV (some 25) [(0, _)] [25] (vs := [_]) rfl en58 rfl (VN (by simp) rfl View.all V0) (by simp) (c_CloneEn (L := L) (A := A) (n := n) (c := c) (b := b) (q := q) LN hA OG) (by rintro _ _ ⟨A25, b25, c25, g25a, g25b, rfl, rfl⟩; rfl) ?_)
      rintro _ _ ⟨A25, b25, c25, g25a, g25b, rfl, rfl⟩
      exact At.into (hGi (hG5_60 A25 b25 c25 b7 g25a g25b)) rfl rfl
     ·
      refine At.bSQ (some 27) (Q_loadO (k := 2) rfl rfl Try.underlying3 rfl rfl (seg_get (i := 1) (p := 0) rfl LN rfl)) ?_
      exact At.into (hGi (hG5_61 b7)) rfl rfl
     ·
      refine At.bSQ (some 28) (Q_loadA (k := 3) rfl rfl Try.underlying23 rfl sz23 LN rfl) ?_
      exact At.into (hGi (hG5_62 b7)) rfl rfl
    have hG5_82 (b7 : Nat) : G 9 #[true, false, true, true, true, true, false, false, true, true, false, false, false, false, false, true, false] (frOf [(2, ptr b2 0), (3, ptr b3 0), (4, ptr b4 0), (5, iV 0), (6, iV 0), (7, ptr b7 0), (18, ptr b2 0), (22, iV (next + 1)), (23, ptr b2 33), (27, iV next)]) (hOf [(0, ⟨false, b, q, 0, encs EntE L, 0⟩), (2, ⟨true, b2, 0, 40, [(key).map u8V, [iV next, .slice A n c]].flatten, 0⟩), (3, ⟨true, b3, 0, 23, (psk).map u8V, 0⟩), (4, ⟨true, b4, 0, 40, [(List.replicate 32 0#8).map u8V, [iV 0, .slice none 0 0]].flatten, 0⟩), (7, ⟨true, b7, 0, 40, [(List.replicate 32 0#8).map u8V, [iV 0, .slice none 0 0]].flatten, 0⟩)]) := by
     clear hG5_0 hG5_1 hG5_2 hG5_3 hG5_4 hG5_5 hG5_6 hG5_7 hG5_8 hG5_9 hG5_10 hG5_11 hG5_12 hG5_13 hG5_14 hG5_15 hG5_16 hG5_17 hG5_18 hG5_19 hG5_20 hG5_21 hG5_22 hG5_23 hG5_24 hG5_25 hG5_26 hG5_27 hG5_28 hG5_29 hG5_30 hG5_31 hG5_32 hG5_33 hG5_34 hG5_35 hG5_36 hG5_37 hG5_38 hG5_39 hG5_40 hG5_41 hG5_42 hG5_44 hG5_45 hG5_46 hG5_47 hG5_48 hG5_49 hG5_50 hG5_52 hG5_53 hG5_54 hG5_55 hG5_56 hG5_57 hG5_58 hG5_59 hG5_60 hG5_62 hG5_63 hG5_64 hG5_65 hG5_66 hG5_67 hG5_68 hG5_69 hG5_70 hG5_71 hG5_72 hG5_73 hG5_74 hG5_75 hG5_76 hG5_77 hG5_78 hG5_79 hG5_80 hG5_81
     refine hGo ?_
     refine At.bStep [1, 6, 10] (by kernel_rfl) (by simp) ?_
     refine ⟨?_, ?_, ?_⟩
     ·
      refine At.bSQ (some 19) (Q_loadN (k := 2) (j := 0) (cs := (key).map u8V) rfl rfl Try.underlying23 rfl sz23 rfl rfl rfl (seg_at (i := 0) rfl LN LN) LN) ?_
      exact At.into (hGi (hG5_51 b7)) rfl rfl
     ·
      refine At.bSQ (some 24) (Q_loadO (k := 2) rfl rfl Try.underlying38 rfl rfl (seg_get (i := 1) (p := 1) rfl LN rfl)) ?_
      exact At.into (hGi (hG5_61 b7)) rfl rfl
     ·
      refine At.bSQ (some 28) (Q_loadA (k := 3) rfl rfl Try.underlying23 rfl sz23 LN rfl) ?_
      refine At.bP  11 (some 29) (P_build_struct (cs := ([[iV next], (psk).map u8V].flatten).toArray) (parts := _) (vs := [(0, _), (1, _)]) rfl Try.underlying96 ze96 pl96 rfl (by show Instr.fill _ ([[iV 0], (List.replicate 32 0#8).map u8V].flatten).toArray _ = _; refine fill_seg (k := 0) (vs := [iV next]) rfl rfl LN rfl LN LN ?_; refine fill_seg (k := 1) (vs := (psk).map u8V) rfl rfl LN rfl LN LN ?_; exact fill_end (by simp))) (by kernel_rfl) (by kernel_rfl) ?_
      exact At.into (hGi (hG5_43 b7)) rfl rfl
    have hG5_83 (b7 : Nat) : G 9 #[true, false, true, true, true, true, false, false, true, false, true, false, false, false, false, true, false] (frOf [(2, ptr b2 0), (4, ptr b4 0), (5, iV 0), (6, iV 0), (7, ptr b7 0), (18, ptr b2 0), (22, iV (next + 1)), (23, ptr b2 33), (26, ptr b2 32), (28, aggK psk)]) (hOf [(0, ⟨false, b, q, 0, encs EntE L, 0⟩), (2, ⟨true, b2, 0, 40, [(key).map u8V, [iV next, .slice A n c]].flatten, 0⟩), (4, ⟨true, b4, 0, 40, [(List.replicate 32 0#8).map u8V, [iV 0, .slice none 0 0]].flatten, 0⟩), (7, ⟨true, b7, 0, 40, [(List.replicate 32 0#8).map u8V, [iV 0, .slice none 0 0]].flatten, 0⟩)]) := by
     clear hG5_0 hG5_1 hG5_2 hG5_3 hG5_4 hG5_5 hG5_6 hG5_7 hG5_8 hG5_9 hG5_10 hG5_11 hG5_12 hG5_13 hG5_14 hG5_15 hG5_16 hG5_17 hG5_18 hG5_19 hG5_20 hG5_21 hG5_22 hG5_23 hG5_24 hG5_25 hG5_26 hG5_27 hG5_28 hG5_29 hG5_30 hG5_31 hG5_32 hG5_33 hG5_34 hG5_35 hG5_36 hG5_37 hG5_38 hG5_39 hG5_40 hG5_41 hG5_42 hG5_44 hG5_45 hG5_46 hG5_47 hG5_48 hG5_49 hG5_50 hG5_51 hG5_53 hG5_54 hG5_55 hG5_56 hG5_57 hG5_58 hG5_59 hG5_60 hG5_61 hG5_63 hG5_64 hG5_65 hG5_66 hG5_67 hG5_68 hG5_69 hG5_70 hG5_71 hG5_72 hG5_73 hG5_74 hG5_75 hG5_76 hG5_77 hG5_78 hG5_79 hG5_80 hG5_81 hG5_82
     refine hGo ?_
     refine At.bStep [1, 6, 9] (by kernel_rfl) (by simp) ?_
     refine ⟨?_, ?_, ?_⟩
     ·
      refine At.bSQ (some 19) (Q_loadN (k := 2) (j := 0) (cs := (key).map u8V) rfl rfl Try.underlying23 rfl sz23 rfl rfl rfl (seg_at (i := 0) rfl LN LN) LN) ?_
      exact At.into (hGi (hG5_52 b7)) rfl rfl
     ·
      refine At.bSQ (some 24) (Q_loadO (k := 2) rfl rfl Try.underlying38 rfl rfl (seg_get (i := 1) (p := 1) rfl LN rfl)) ?_
      exact At.into (hGi (hG5_62 b7)) rfl rfl
     ·
      refine At.bSQ (some 27) (Q_loadO (k := 2) rfl rfl Try.underlying3 rfl rfl (seg_get (i := 1) (p := 0) rfl LN rfl)) ?_
      refine At.bP  11 (some 29) (P_build_struct (cs := ([[iV next], (psk).map u8V].flatten).toArray) (parts := _) (vs := [(0, _), (1, _)]) rfl Try.underlying96 ze96 pl96 rfl (by show Instr.fill _ ([[iV 0], (List.replicate 32 0#8).map u8V].flatten).toArray _ = _; refine fill_seg (k := 0) (vs := [iV next]) rfl rfl LN rfl LN LN ?_; refine fill_seg (k := 1) (vs := (psk).map u8V) rfl rfl LN rfl LN LN ?_; exact fill_end (by simp))) (by kernel_rfl) (by kernel_rfl) ?_
      exact At.into (hGi (hG5_43 b7)) rfl rfl
    have hG5_84 (A25 : Option Addr) (b25 c25 : Nat) (b7 : Nat) (g25a : 0 < c25 → A25 = some ⟨b25, 0, none⟩) (g25b : L.length ≤ c25) : G 9 #[true, false, true, false, false, true, true, true, true, true, false, false, false, false, false, true, false] (frOf [(2, ptr b2 0), (3, ptr b3 0), (4, ptr b4 0), (5, iV 0), (6, iV 0), (7, ptr b7 0), (18, ptr b2 0), (20, ptr b2 32), (25, .slice A25 L.length c25), (27, iV next)]) (hOf [(0, ⟨false, b, q, 0, encs EntE L, 0⟩), (2, ⟨true, b2, 0, 40, [(key).map u8V, [iV next, .slice A n c]].flatten, 0⟩), (3, ⟨true, b3, 0, 23, (psk).map u8V, 0⟩), (4, ⟨true, b4, 0, 40, [(List.replicate 32 0#8).map u8V, [iV 0, .slice none 0 0]].flatten, 0⟩), (7, ⟨true, b7, 0, 40, [(List.replicate 32 0#8).map u8V, [iV 0, .slice none 0 0]].flatten, 0⟩), (25, ⟨true, b25, 0, 96, encs EntE L, (c25 - (L).length) * 33⟩)]) := by
     clear hG5_0 hG5_1 hG5_2 hG5_3 hG5_4 hG5_5 hG5_6 hG5_7 hG5_8 hG5_9 hG5_10 hG5_11 hG5_12 hG5_13 hG5_14 hG5_15 hG5_16 hG5_17 hG5_18 hG5_19 hG5_20 hG5_21 hG5_22 hG5_23 hG5_24 hG5_25 hG5_26 hG5_27 hG5_28 hG5_29 hG5_30 hG5_31 hG5_32 hG5_33 hG5_34 hG5_35 hG5_36 hG5_37 hG5_38 hG5_40 hG5_41 hG5_42 hG5_43 hG5_44 hG5_46 hG5_47 hG5_48 hG5_49 hG5_50 hG5_51 hG5_52 hG5_54 hG5_55 hG5_56 hG5_57 hG5_58 hG5_59 hG5_60 hG5_61 hG5_62 hG5_63 hG5_64 hG5_65 hG5_66 hG5_67 hG5_68 hG5_69 hG5_70 hG5_71 hG5_72 hG5_73 hG5_74 hG5_75 hG5_76 hG5_77 hG5_78 hG5_79 hG5_80 hG5_81 hG5_82 hG5_83
     refine hGo ?_
     refine At.bStep [1, 3, 10] (by kernel_rfl) (by simp) ?_
     refine ⟨?_, ?_, ?_⟩
     ·
      refine At.bSQ (some 19) (Q_loadN (k := 2) (j := 0) (cs := (key).map u8V) rfl rfl Try.underlying23 rfl sz23 rfl rfl rfl (seg_at (i := 0) rfl LN LN) LN) ?_
      exact At.into (hGi (hG5_53 A25 b25 c25 b7 g25a g25b)) rfl rfl
     ·
      refine At.bSQ (some 21) (Q_loadO (k := 2) rfl rfl Try.underlying3 rfl rfl (seg_get (i := 1) (p := 0) rfl LN rfl)) ?_
      refine At.bP  4 (some 22) (P_add_i rfl rfl rfl (by omega)) (by kernel_rfl) (by kernel_rfl) ?_
      exact At.into (hGi (hG5_39 A25 b25 c25 b7 g25a g25b)) rfl rfl
     ·
      refine At.bSQ (some 28) (Q_loadA (k := 3) rfl rfl Try.underlying23 rfl sz23 LN rfl) ?_
      refine At.bP  11 (some 29) (P_build_struct (cs := ([[iV next], (psk).map u8V].flatten).toArray) (parts := _) (vs := [(0, _), (1, _)]) rfl Try.underlying96 ze96 pl96 rfl (by show Instr.fill _ ([[iV 0], (List.replicate 32 0#8).map u8V].flatten).toArray _ = _; refine fill_seg (k := 0) (vs := [iV next]) rfl rfl LN rfl LN LN ?_; refine fill_seg (k := 1) (vs := (psk).map u8V) rfl rfl LN rfl LN LN ?_; exact fill_end (by simp))) (by kernel_rfl) (by kernel_rfl) ?_
      exact At.into (hGi (hG5_45 A25 b25 c25 b7 g25a g25b)) rfl rfl
    have hG5_85 (A25 : Option Addr) (b25 c25 : Nat) (b7 : Nat) (g25a : 0 < c25 → A25 = some ⟨b25, 0, none⟩) (g25b : L.length ≤ c25) : G 9 #[true, false, true, false, false, true, true, true, true, false, true, false, false, false, false, true, false] (frOf [(2, ptr b2 0), (4, ptr b4 0), (5, iV 0), (6, iV 0), (7, ptr b7 0), (18, ptr b2 0), (20, ptr b2 32), (25, .slice A25 L.length c25), (26, ptr b2 32), (28, aggK psk)]) (hOf [(0, ⟨false, b, q, 0, encs EntE L, 0⟩), (2, ⟨true, b2, 0, 40, [(key).map u8V, [iV next, .slice A n c]].flatten, 0⟩), (4, ⟨true, b4, 0, 40, [(List.replicate 32 0#8).map u8V, [iV 0, .slice none 0 0]].flatten, 0⟩), (7, ⟨true, b7, 0, 40, [(List.replicate 32 0#8).map u8V, [iV 0, .slice none 0 0]].flatten, 0⟩), (25, ⟨true, b25, 0, 96, encs EntE L, (c25 - (L).length) * 33⟩)]) := by
     clear hG5_0 hG5_1 hG5_2 hG5_3 hG5_4 hG5_5 hG5_6 hG5_7 hG5_8 hG5_9 hG5_10 hG5_11 hG5_12 hG5_13 hG5_14 hG5_15 hG5_16 hG5_17 hG5_18 hG5_19 hG5_20 hG5_21 hG5_22 hG5_23 hG5_24 hG5_25 hG5_26 hG5_27 hG5_28 hG5_29 hG5_30 hG5_31 hG5_32 hG5_33 hG5_34 hG5_35 hG5_36 hG5_37 hG5_38 hG5_39 hG5_41 hG5_42 hG5_43 hG5_44 hG5_46 hG5_47 hG5_48 hG5_49 hG5_50 hG5_51 hG5_52 hG5_53 hG5_55 hG5_56 hG5_57 hG5_58 hG5_59 hG5_60 hG5_61 hG5_62 hG5_63 hG5_64 hG5_65 hG5_66 hG5_67 hG5_68 hG5_69 hG5_70 hG5_71 hG5_72 hG5_73 hG5_74 hG5_75 hG5_76 hG5_77 hG5_78 hG5_79 hG5_80 hG5_81 hG5_82 hG5_83 hG5_84
     refine hGo ?_
     refine At.bStep [1, 3, 9] (by kernel_rfl) (by simp) ?_
     refine ⟨?_, ?_, ?_⟩
     ·
      refine At.bSQ (some 19) (Q_loadN (k := 2) (j := 0) (cs := (key).map u8V) rfl rfl Try.underlying23 rfl sz23 rfl rfl rfl (seg_at (i := 0) rfl LN LN) LN) ?_
      exact At.into (hGi (hG5_54 A25 b25 c25 b7 g25a g25b)) rfl rfl
     ·
      refine At.bSQ (some 21) (Q_loadO (k := 2) rfl rfl Try.underlying3 rfl rfl (seg_get (i := 1) (p := 0) rfl LN rfl)) ?_
      refine At.bP  4 (some 22) (P_add_i rfl rfl rfl (by omega)) (by kernel_rfl) (by kernel_rfl) ?_
      exact At.into (hGi (hG5_40 A25 b25 c25 b7 g25a g25b)) rfl rfl
     ·
      refine At.bSQ (some 27) (Q_loadO (k := 2) rfl rfl Try.underlying3 rfl rfl (seg_get (i := 1) (p := 0) rfl LN rfl)) ?_
      refine At.bP  11 (some 29) (P_build_struct (cs := ([[iV next], (psk).map u8V].flatten).toArray) (parts := _) (vs := [(0, _), (1, _)]) rfl Try.underlying96 ze96 pl96 rfl (by show Instr.fill _ ([[iV 0], (List.replicate 32 0#8).map u8V].flatten).toArray _ = _; refine fill_seg (k := 0) (vs := [iV next]) rfl rfl LN rfl LN LN ?_; refine fill_seg (k := 1) (vs := (psk).map u8V) rfl rfl LN rfl LN LN ?_; exact fill_end (by simp))) (by kernel_rfl) (by kernel_rfl) ?_
      exact At.into (hGi (hG5_45 A25 b25 c25 b7 g25a g25b)) rfl rfl
    have hG5_86  : G 9 #[true, false, true, false, false, true, true, false, true, true, true, true, false, false, false, false, false] (frOf [(2, ptr b2 0), (4, ptr b4 0), (5, iV 0), (6, iV 0), (18, ptr b2 0), (20, ptr b2 32), (24, .slice A n c), (29, .agg ([[iV next], (psk).map u8V].flatten).toArray)]) (hOf [(0, ⟨false, b, q, 0, encs EntE L, 0⟩), (2, ⟨true, b2, 0, 40, [(key).map u8V, [iV next, .slice A n c]].flatten, 0⟩), (4, ⟨true, b4, 0, 40, [(List.replicate 32 0#8).map u8V, [iV 0, .slice none 0 0]].flatten, 0⟩)]) := by
     clear hG5_0 hG5_1 hG5_2 hG5_3 hG5_4 hG5_5 hG5_6 hG5_7 hG5_8 hG5_9 hG5_10 hG5_11 hG5_12 hG5_13 hG5_14 hG5_15 hG5_16 hG5_17 hG5_18 hG5_19 hG5_20 hG5_21 hG5_22 hG5_23 hG5_24 hG5_25 hG5_26 hG5_27 hG5_28 hG5_29 hG5_30 hG5_31 hG5_32 hG5_33 hG5_34 hG5_35 hG5_36 hG5_37 hG5_38 hG5_39 hG5_40 hG5_42 hG5_43 hG5_44 hG5_45 hG5_46 hG5_47 hG5_48 hG5_49 hG5_50 hG5_51 hG5_52 hG5_53 hG5_54 hG5_56 hG5_57 hG5_58 hG5_59 hG5_60 hG5_61 hG5_62 hG5_63 hG5_67 hG5_68 hG5_69 hG5_70 hG5_71 hG5_72 hG5_73 hG5_74 hG5_75 hG5_76 hG5_77 hG5_78 hG5_79 hG5_80 hG5_81 hG5_82 hG5_83 hG5_84 hG5_85
     refine hGo ?_
     refine At.bStep [1, 3, 7, 12, 15] (by kernel_rfl) (by simp) ?_
     refine ⟨?_, ?_, ?_, ?_, ?_⟩
     ·
      refine At.bSQ (some 19) (Q_loadN (k := 2) (j := 0) (cs := (key).map u8V) rfl rfl Try.underlying23 rfl sz23 rfl rfl rfl (seg_at (i := 0) rfl LN LN) LN) ?_
      exact At.into (hGi (hG5_55 )) rfl rfl
     ·
      refine At.bSQ (some 21) (Q_loadO (k := 2) rfl rfl Try.underlying3 rfl rfl (seg_get (i := 1) (p := 0) rfl LN rfl)) ?_
      refine At.bP  4 (some 22) (P_add_i rfl rfl rfl (by omega)) (by kernel_rfl) (by kernel_rfl) ?_
      exact At.into (hGi (hG5_41 )) rfl rfl
     ·
      refine At.bS false (by kernel_rfl) (S_callV (some 25) [(0, _)] [25] (vs := [_]) rfl en58 rfl (VN (by simp) rfl View.all V0) (by simp) (c_CloneEn (L := L) (A := A) (n := n) (c := c) (b := b) (q := q) LN hA OG) (by rintro _ _ ⟨A25, b25, c25, g25a, g25b, rfl, rfl⟩; rfl) ?_)
      rintro _ _ ⟨A25, b25, c25, g25a, g25b, rfl, rfl⟩
      exact At.into (hGi (hG5_64 A25 b25 c25 g25a g25b)) rfl rfl
     ·
      refine At.bS false (by kernel_rfl) (S_buildSliceE (some 30) 30 (cs := [[iV next], (psk).map u8V].flatten) rfl Try.underlying38 sz96 ze96 rfl rfl LN (by decide) (by decide) (fun b30 => ?_))
      refine At.row 30 (⟨true, b30, 0, 96, encs EntE [mkEnt next psk], 0⟩) rfl (ent_row LN) ?_
      exact At.into (hGi (hG5_65 b30)) rfl rfl
     ·
      refine At.bS false (by kernel_rfl) (S_alloc (some 7) 7 (zs := [(List.replicate 32 0#8).map u8V, [iV 0, .slice none 0 0]].flatten) rfl ze40 rfl (fun b7 => ?_))
      exact At.into (hGi (hG5_66 b7)) rfl rfl
    have hG5_87 (b30 : Nat) : G 9 #[true, false, true, false, false, true, false, false, true, true, true, true, true, false, false, false, false] (frOf [(2, ptr b2 0), (4, ptr b4 0), (5, iV 0), (6, iV 0), (18, ptr b2 0), (20, ptr b2 32), (23, ptr b2 33), (30, .slice (some ⟨b30, 0, none⟩) 1 1)]) (hOf [(0, ⟨false, b, q, 0, encs EntE L, 0⟩), (2, ⟨true, b2, 0, 40, [(key).map u8V, [iV next, .slice A n c]].flatten, 0⟩), (4, ⟨true, b4, 0, 40, [(List.replicate 32 0#8).map u8V, [iV 0, .slice none 0 0]].flatten, 0⟩), (30, ⟨true, b30, 0, 96, encs EntE [mkEnt next psk], 0⟩)]) := by
     clear hG5_0 hG5_1 hG5_2 hG5_3 hG5_4 hG5_5 hG5_6 hG5_7 hG5_8 hG5_9 hG5_10 hG5_11 hG5_12 hG5_13 hG5_14 hG5_15 hG5_16 hG5_17 hG5_18 hG5_19 hG5_20 hG5_21 hG5_22 hG5_23 hG5_24 hG5_25 hG5_26 hG5_27 hG5_28 hG5_29 hG5_30 hG5_31 hG5_32 hG5_33 hG5_34 hG5_35 hG5_36 hG5_37 hG5_38 hG5_39 hG5_40 hG5_41 hG5_43 hG5_44 hG5_45 hG5_46 hG5_47 hG5_48 hG5_49 hG5_50 hG5_51 hG5_52 hG5_53 hG5_54 hG5_55 hG5_57 hG5_58 hG5_59 hG5_60 hG5_61 hG5_62 hG5_63 hG5_64 hG5_66 hG5_68 hG5_69 hG5_70 hG5_71 hG5_72 hG5_73 hG5_74 hG5_75 hG5_76 hG5_77 hG5_78 hG5_79 hG5_80 hG5_81 hG5_82 hG5_83 hG5_84 hG5_85 hG5_86
     refine hGo ?_
     refine At.bStep [1, 3, 6, 15] (by kernel_rfl) (by simp) ?_
     refine ⟨?_, ?_, ?_, ?_⟩
     ·
      refine At.bSQ (some 19) (Q_loadN (k := 2) (j := 0) (cs := (key).map u8V) rfl rfl Try.underlying23 rfl sz23 rfl rfl rfl (seg_at (i := 0) rfl LN LN) LN) ?_
      exact At.into (hGi (hG5_56 b30)) rfl rfl
     ·
      refine At.bSQ (some 21) (Q_loadO (k := 2) rfl rfl Try.underlying3 rfl rfl (seg_get (i := 1) (p := 0) rfl LN rfl)) ?_
      refine At.bP  4 (some 22) (P_add_i rfl rfl rfl (by omega)) (by kernel_rfl) (by kernel_rfl) ?_
      exact At.into (hGi (hG5_42 b30)) rfl rfl
     ·
      refine At.bSQ (some 24) (Q_loadO (k := 2) rfl rfl Try.underlying38 rfl rfl (seg_get (i := 1) (p := 1) rfl LN rfl)) ?_
      exact At.into (hGi (hG5_65 b30)) rfl rfl
     ·
      refine At.bS false (by kernel_rfl) (S_alloc (some 7) 7 (zs := [(List.replicate 32 0#8).map u8V, [iV 0, .slice none 0 0]].flatten) rfl ze40 rfl (fun b7 => ?_))
      exact At.into (hGi (hG5_67 b30 b7)) rfl rfl
    have hG5_88 (b7 : Nat) : G 9 #[true, false, true, false, false, true, false, false, true, true, true, true, false, false, false, true, false] (frOf [(2, ptr b2 0), (4, ptr b4 0), (5, iV 0), (6, iV 0), (7, ptr b7 0), (18, ptr b2 0), (20, ptr b2 32), (23, ptr b2 33), (29, .agg ([[iV next], (psk).map u8V].flatten).toArray)]) (hOf [(0, ⟨false, b, q, 0, encs EntE L, 0⟩), (2, ⟨true, b2, 0, 40, [(key).map u8V, [iV next, .slice A n c]].flatten, 0⟩), (4, ⟨true, b4, 0, 40, [(List.replicate 32 0#8).map u8V, [iV 0, .slice none 0 0]].flatten, 0⟩), (7, ⟨true, b7, 0, 40, [(List.replicate 32 0#8).map u8V, [iV 0, .slice none 0 0]].flatten, 0⟩)]) := by
     clear hG5_0 hG5_1 hG5_2 hG5_3 hG5_4 hG5_5 hG5_6 hG5_7 hG5_8 hG5_9 hG5_10 hG5_11 hG5_12 hG5_13 hG5_14 hG5_15 hG5_16 hG5_17 hG5_18 hG5_19 hG5_20 hG5_21 hG5_22 hG5_23 hG5_24 hG5_25 hG5_26 hG5_27 hG5_28 hG5_29 hG5_30 hG5_31 hG5_32 hG5_33 hG5_34 hG5_35 hG5_36 hG5_37 hG5_38 hG5_39 hG5_40 hG5_41 hG5_42 hG5_44 hG5_45 hG5_46 hG5_47 hG5_48 hG5_49 hG5_50 hG5_51 hG5_52 hG5_53 hG5_54 hG5_55 hG5_56 hG5_58 hG5_59 hG5_60 hG5_61 hG5_62 hG5_63 hG5_64 hG5_65 hG5_68 hG5_69 hG5_70 hG5_71 hG5_72 hG5_73 hG5_74 hG5_75 hG5_76 hG5_77 hG5_78 hG5_79 hG5_80 hG5_81 hG5_82 hG5_83 hG5_84 hG5_85 hG5_86 hG5_87
     refine hGo ?_
     refine At.bStep [1, 3, 6, 12] (by kernel_rfl) (by simp) ?_
     refine ⟨?_, ?_, ?_, ?_⟩
     ·
      refine At.bSQ (some 19) (Q_loadN (k := 2) (j := 0) (cs := (key).map u8V) rfl rfl Try.underlying23 rfl sz23 rfl rfl rfl (seg_at (i := 0) rfl LN LN) LN) ?_
      exact At.into (hGi (hG5_57 b7)) rfl rfl
     ·
      refine At.bSQ (some 21) (Q_loadO (k := 2) rfl rfl Try.underlying3 rfl rfl (seg_get (i := 1) (p := 0) rfl LN rfl)) ?_
      refine At.bP  4 (some 22) (P_add_i rfl rfl rfl (by omega)) (by kernel_rfl) (by kernel_rfl) ?_
      exact At.into (hGi (hG5_43 b7)) rfl rfl
     ·
      refine At.bSQ (some 24) (Q_loadO (k := 2) rfl rfl Try.underlying38 rfl rfl (seg_get (i := 1) (p := 1) rfl LN rfl)) ?_
      exact At.into (hGi (hG5_66 b7)) rfl rfl
     ·
      refine At.bS false (by kernel_rfl) (S_buildSliceE (some 30) 30 (cs := [[iV next], (psk).map u8V].flatten) rfl Try.underlying38 sz96 ze96 rfl rfl LN (by decide) (by decide) (fun b30 => ?_))
      refine At.row 30 (⟨true, b30, 0, 96, encs EntE [mkEnt next psk], 0⟩) rfl (ent_row LN) ?_
      exact At.into (hGi (hG5_67 b30 b7)) rfl rfl
    have hG5_89  : G 10 #[true, true, true, true, true, true, false, false, true, false, false, false, false, false, false, false, false] (frOf [(2, ptr b2 0), (3, ptr b3 0), (4, ptr b4 0), (5, iV 0), (6, iV 0), (19, aggK key), (22, iV (next + 1)), (23, ptr b2 33), (26, ptr b2 32)]) (hOf [(0, ⟨false, b, q, 0, encs EntE L, 0⟩), (2, ⟨true, b2, 0, 40, [(key).map u8V, [iV next, .slice A n c]].flatten, 0⟩), (3, ⟨true, b3, 0, 23, (psk).map u8V, 0⟩), (4, ⟨true, b4, 0, 40, [(List.replicate 32 0#8).map u8V, [iV 0, .slice none 0 0]].flatten, 0⟩)]) := by
     clear hG5_0 hG5_1 hG5_2 hG5_3 hG5_4 hG5_5 hG5_6 hG5_7 hG5_8 hG5_9 hG5_10 hG5_11 hG5_12 hG5_13 hG5_14 hG5_15 hG5_16 hG5_17 hG5_18 hG5_19 hG5_20 hG5_21 hG5_22 hG5_23 hG5_24 hG5_25 hG5_26 hG5_27 hG5_28 hG5_29 hG5_30 hG5_31 hG5_32 hG5_33 hG5_34 hG5_35 hG5_36 hG5_37 hG5_38 hG5_39 hG5_40 hG5_41 hG5_42 hG5_43 hG5_44 hG5_45 hG5_46 hG5_47 hG5_48 hG5_49 hG5_50 hG5_51 hG5_52 hG5_53 hG5_54 hG5_55 hG5_56 hG5_57 hG5_58 hG5_59 hG5_60 hG5_61 hG5_62 hG5_63 hG5_64 hG5_65 hG5_66 hG5_67 hG5_72 hG5_73 hG5_74 hG5_75 hG5_76 hG5_77 hG5_78 hG5_79 hG5_80 hG5_81 hG5_82 hG5_83 hG5_84 hG5_85 hG5_86 hG5_87 hG5_88
     refine hGo ?_
     refine At.bStep [6, 9, 10, 15] (by kernel_rfl) (by simp) ?_
     refine ⟨?_, ?_, ?_, ?_⟩
     ·
      refine At.bSQ (some 24) (Q_loadO (k := 2) rfl rfl Try.underlying38 rfl rfl (seg_get (i := 1) (p := 1) rfl LN rfl)) ?_
      exact At.into (hGi (hG5_68 )) rfl rfl
     ·
      refine At.bSQ (some 27) (Q_loadO (k := 2) rfl rfl Try.underlying3 rfl rfl (seg_get (i := 1) (p := 0) rfl LN rfl)) ?_
      exact At.into (hGi (hG5_69 )) rfl rfl
     ·
      refine At.bSQ (some 28) (Q_loadA (k := 3) rfl rfl Try.underlying23 rfl sz23 LN rfl) ?_
      exact At.into (hGi (hG5_70 )) rfl rfl
     ·
      refine At.bS false (by kernel_rfl) (S_alloc (some 7) 7 (zs := [(List.replicate 32 0#8).map u8V, [iV 0, .slice none 0 0]].flatten) rfl ze40 rfl (fun b7 => ?_))
      exact At.into (hGi (hG5_71 b7)) rfl rfl
    have hG5_90 (A25 : Option Addr) (b25 c25 : Nat) (g25a : 0 < c25 → A25 = some ⟨b25, 0, none⟩) (g25b : L.length ≤ c25) : G 10 #[true, true, true, false, false, true, true, true, true, false, false, false, false, false, false, false, false] (frOf [(2, ptr b2 0), (3, ptr b3 0), (4, ptr b4 0), (5, iV 0), (6, iV 0), (19, aggK key), (20, ptr b2 32), (25, .slice A25 L.length c25), (26, ptr b2 32)]) (hOf [(0, ⟨false, b, q, 0, encs EntE L, 0⟩), (2, ⟨true, b2, 0, 40, [(key).map u8V, [iV next, .slice A n c]].flatten, 0⟩), (3, ⟨true, b3, 0, 23, (psk).map u8V, 0⟩), (4, ⟨true, b4, 0, 40, [(List.replicate 32 0#8).map u8V, [iV 0, .slice none 0 0]].flatten, 0⟩), (25, ⟨true, b25, 0, 96, encs EntE L, (c25 - (L).length) * 33⟩)]) := by
     clear hG5_0 hG5_1 hG5_2 hG5_3 hG5_4 hG5_5 hG5_6 hG5_7 hG5_8 hG5_9 hG5_10 hG5_11 hG5_12 hG5_13 hG5_14 hG5_15 hG5_16 hG5_17 hG5_18 hG5_19 hG5_20 hG5_21 hG5_22 hG5_23 hG5_24 hG5_25 hG5_26 hG5_27 hG5_28 hG5_29 hG5_30 hG5_31 hG5_32 hG5_33 hG5_34 hG5_35 hG5_36 hG5_37 hG5_38 hG5_39 hG5_40 hG5_41 hG5_42 hG5_43 hG5_44 hG5_45 hG5_46 hG5_48 hG5_49 hG5_50 hG5_51 hG5_52 hG5_53 hG5_54 hG5_55 hG5_56 hG5_57 hG5_58 hG5_59 hG5_60 hG5_61 hG5_62 hG5_63 hG5_64 hG5_65 hG5_66 hG5_67 hG5_68 hG5_69 hG5_70 hG5_71 hG5_75 hG5_76 hG5_77 hG5_78 hG5_79 hG5_80 hG5_81 hG5_82 hG5_83 hG5_84 hG5_85 hG5_86 hG5_87 hG5_88 hG5_89
     refine hGo ?_
     refine At.bStep [3, 9, 10, 15] (by kernel_rfl) (by simp) ?_
     refine ⟨?_, ?_, ?_, ?_⟩
     ·
      refine At.bSQ (some 21) (Q_loadO (k := 2) rfl rfl Try.underlying3 rfl rfl (seg_get (i := 1) (p := 0) rfl LN rfl)) ?_
      refine At.bP  4 (some 22) (P_add_i rfl rfl rfl (by omega)) (by kernel_rfl) (by kernel_rfl) ?_
      exact At.into (hGi (hG5_47 A25 b25 c25 g25a g25b)) rfl rfl
     ·
      refine At.bSQ (some 27) (Q_loadO (k := 2) rfl rfl Try.underlying3 rfl rfl (seg_get (i := 1) (p := 0) rfl LN rfl)) ?_
      exact At.into (hGi (hG5_72 A25 b25 c25 g25a g25b)) rfl rfl
     ·
      refine At.bSQ (some 28) (Q_loadA (k := 3) rfl rfl Try.underlying23 rfl sz23 LN rfl) ?_
      exact At.into (hGi (hG5_73 A25 b25 c25 g25a g25b)) rfl rfl
     ·
      refine At.bS false (by kernel_rfl) (S_alloc (some 7) 7 (zs := [(List.replicate 32 0#8).map u8V, [iV 0, .slice none 0 0]].flatten) rfl ze40 rfl (fun b7 => ?_))
      exact At.into (hGi (hG5_74 A25 b25 c25 b7 g25a g25b)) rfl rfl
    have hG5_91  : G 10 #[true, true, true, false, false, true, true, false, true, true, false, false, false, false, false, false, false] (frOf [(2, ptr b2 0), (3, ptr b3 0), (4, ptr b4 0), (5, iV 0), (6, iV 0), (19, aggK key), (20, ptr b2 32), (24, .slice A n c), (27, iV next)]) (hOf [(0, ⟨false, b, q, 0, encs EntE L, 0⟩), (2, ⟨true, b2, 0, 40, [(key).map u8V, [iV next, .slice A n c]].flatten, 0⟩), (3, ⟨true, b3, 0, 23, (psk).map u8V, 0⟩), (4, ⟨true, b4, 0, 40, [(List.replicate 32 0#8).map u8V, [iV 0, .slice none 0 0]].flatten, 0⟩)]) := by
     clear hG5_0 hG5_1 hG5_2 hG5_3 hG5_4 hG5_5 hG5_6 hG5_7 hG5_8 hG5_9 hG5_10 hG5_11 hG5_12 hG5_13 hG5_14 hG5_15 hG5_16 hG5_17 hG5_18 hG5_19 hG5_20 hG5_21 hG5_22 hG5_23 hG5_24 hG5_25 hG5_26 hG5_27 hG5_28 hG5_29 hG5_30 hG5_31 hG5_32 hG5_33 hG5_34 hG5_35 hG5_36 hG5_37 hG5_38 hG5_39 hG5_40 hG5_41 hG5_42 hG5_43 hG5_44 hG5_45 hG5_46 hG5_47 hG5_49 hG5_50 hG5_51 hG5_52 hG5_53 hG5_54 hG5_56 hG5_57 hG5_58 hG5_59 hG5_60 hG5_61 hG5_62 hG5_63 hG5_64 hG5_65 hG5_66 hG5_67 hG5_68 hG5_69 hG5_70 hG5_71 hG5_73 hG5_74 hG5_76 hG5_77 hG5_78 hG5_79 hG5_80 hG5_81 hG5_82 hG5_83 hG5_84 hG5_85 hG5_86 hG5_87 hG5_88 hG5_89 hG5_90
     refine hGo ?_
     refine At.bStep [3, 7, 10, 15] (by kernel_rfl) (by simp) ?_
     refine ⟨?_, ?_, ?_, ?_⟩
     ·
      refine At.bSQ (some 21) (Q_loadO (k := 2) rfl rfl Try.underlying3 rfl rfl (seg_get (i := 1) (p := 0) rfl LN rfl)) ?_
      refine At.bP  4 (some 22) (P_add_i rfl rfl rfl (by omega)) (by kernel_rfl) (by kernel_rfl) ?_
      exact At.into (hGi (hG5_48 )) rfl rfl
     ·
      refine At.bS false (by kernel_rfl) (S_callV (some 25) [(0, _)] [25] (vs := [_]) rfl en58 rfl (VN (by simp) rfl View.all V0) (by simp) (c_CloneEn (L := L) (A := A) (n := n) (c := c) (b := b) (q := q) LN hA OG) (by rintro _ _ ⟨A25, b25, c25, g25a, g25b, rfl, rfl⟩; rfl) ?_)
      rintro _ _ ⟨A25, b25, c25, g25a, g25b, rfl, rfl⟩
      exact At.into (hGi (hG5_72 A25 b25 c25 g25a g25b)) rfl rfl
     ·
      refine At.bSQ (some 28) (Q_loadA (k := 3) rfl rfl Try.underlying23 rfl sz23 LN rfl) ?_
      refine At.bP  11 (some 29) (P_build_struct (cs := ([[iV next], (psk).map u8V].flatten).toArray) (parts := _) (vs := [(0, _), (1, _)]) rfl Try.underlying96 ze96 pl96 rfl (by show Instr.fill _ ([[iV 0], (List.replicate 32 0#8).map u8V].flatten).toArray _ = _; refine fill_seg (k := 0) (vs := [iV next]) rfl rfl LN rfl LN LN ?_; refine fill_seg (k := 1) (vs := (psk).map u8V) rfl rfl LN rfl LN LN ?_; exact fill_end (by simp))) (by kernel_rfl) (by kernel_rfl) ?_
      exact At.into (hGi (hG5_55 )) rfl rfl
     ·
      refine At.bS false (by kernel_rfl) (S_alloc (some 7) 7 (zs := [(List.replicate 32 0#8).map u8V, [iV 0, .slice none 0 0]].flatten) rfl ze40 rfl (fun b7 => ?_))
      exact At.into (hGi (hG5_75 b7)) rfl rfl
    have hG5_92  : G 10 #[true, true, true, false, false, true, true, false, true, false, true, false, false, false, false, false, false] (frOf [(2, ptr b2 0), (4, ptr b4 0), (5, iV 0), (6, iV 0), (19, aggK key), (20, ptr b2 32), (24, .slice A n c), (26, ptr b2 32), (28, aggK psk)]) (hOf [(0, ⟨false, b, q, 0, encs EntE L, 0⟩), (2, ⟨true, b2, 0, 40, [(key).map u8V, [iV next, .slice A n c]].flatten, 0⟩), (4, ⟨true, b4, 0, 40, [(List.replicate 32 0#8).map u8V, [iV 0, .slice none 0 0]].flatten, 0⟩)]) := by
     clear hG5_0 hG5_1 hG5_2 hG5_3 hG5_4 hG5_5 hG5_6 hG5_7 hG5_8 hG5_9 hG5_10 hG5_11 hG5_12 hG5_13 hG5_14 hG5_15 hG5_16 hG5_17 hG5_18 hG5_19 hG5_20 hG5_21 hG5_22 hG5_23 hG5_24 hG5_25 hG5_26 hG5_27 hG5_28 hG5_29 hG5_30 hG5_31 hG5_32 hG5_33 hG5_34 hG5_35 hG5_36 hG5_37 hG5_38 hG5_39 hG5_40 hG5_41 hG5_42 hG5_43 hG5_44 hG5_45 hG5_46 hG5_47 hG5_48 hG5_50 hG5_51 hG5_52 hG5_53 hG5_54 hG5_56 hG5_57 hG5_58 hG5_59 hG5_60 hG5_61 hG5_62 hG5_63 hG5_64 hG5_65 hG5_66 hG5_67 hG5_68 hG5_69 hG5_70 hG5_71 hG5_72 hG5_74 hG5_75 hG5_77 hG5_78 hG5_79 hG5_80 hG5_81 hG5_82 hG5_83 hG5_84 hG5_85 hG5_86 hG5_87 hG5_88 hG5_89 hG5_90 hG5_91
     refine hGo ?_
     refine At.bStep [3, 7, 9, 15] (by kernel_rfl) (by simp) ?_
     refine ⟨?_, ?_, ?_, ?_⟩
     ·
      refine At.bSQ (some 21) (Q_loadO (k := 2) rfl rfl Try.underlying3 rfl rfl (seg_get (i := 1) (p := 0) rfl LN rfl)) ?_
      refine At.bP  4 (some 22) (P_add_i rfl rfl rfl (by omega)) (by kernel_rfl) (by kernel_rfl) ?_
      exact At.into (hGi (hG5_49 )) rfl rfl
     ·
      refine At.bS false (by kernel_rfl) (S_callV (some 25) [(0, _)] [25] (vs := [_]) rfl en58 rfl (VN (by simp) rfl View.all V0) (by simp) (c_CloneEn (L := L) (A := A) (n := n) (c := c) (b := b) (q := q) LN hA OG) (by rintro _ _ ⟨A25, b25, c25, g25a, g25b, rfl, rfl⟩; rfl) ?_)
      rintro _ _ ⟨A25, b25, c25, g25a, g25b, rfl, rfl⟩
      exact At.into (hGi (hG5_73 A25 b25 c25 g25a g25b)) rfl rfl
     ·
      refine At.bSQ (some 27) (Q_loadO (k := 2) rfl rfl Try.underlying3 rfl rfl (seg_get (i := 1) (p := 0) rfl LN rfl)) ?_
      refine At.bP  11 (some 29) (P_build_struct (cs := ([[iV next], (psk).map u8V].flatten).toArray) (parts := _) (vs := [(0, _), (1, _)]) rfl Try.underlying96 ze96 pl96 rfl (by show Instr.fill _ ([[iV 0], (List.replicate 32 0#8).map u8V].flatten).toArray _ = _; refine fill_seg (k := 0) (vs := [iV next]) rfl rfl LN rfl LN LN ?_; refine fill_seg (k := 1) (vs := (psk).map u8V) rfl rfl LN rfl LN LN ?_; exact fill_end (by simp))) (by kernel_rfl) (by kernel_rfl) ?_
      exact At.into (hGi (hG5_55 )) rfl rfl
     ·
      refine At.bS false (by kernel_rfl) (S_alloc (some 7) 7 (zs := [(List.replicate 32 0#8).map u8V, [iV 0, .slice none 0 0]].flatten) rfl ze40 rfl (fun b7 => ?_))
      exact At.into (hGi (hG5_76 b7)) rfl rfl
    have hG5_93 (b7 : Nat) : G 10 #[true, true, true, false, false, true, true, false, true, false, false, false, false, false, false, true, false] (frOf [(2, ptr b2 0), (3, ptr b3 0), (4, ptr b4 0), (5, iV 0), (6, iV 0), (7, ptr b7 0), (19, aggK key), (20, ptr b2 32), (24, .slice A n c), (26, ptr b2 32)]) (hOf [(0, ⟨false, b, q, 0, encs EntE L, 0⟩), (2, ⟨true, b2, 0, 40, [(key).map u8V, [iV next, .slice A n c]].flatten, 0⟩), (3, ⟨true, b3, 0, 23, (psk).map u8V, 0⟩), (4, ⟨true, b4, 0, 40, [(List.replicate 32 0#8).map u8V, [iV 0, .slice none 0 0]].flatten, 0⟩), (7, ⟨true, b7, 0, 40, [(List.replicate 32 0#8).map u8V, [iV 0, .slice none 0 0]].flatten, 0⟩)]) := by
     clear hG5_0 hG5_1 hG5_2 hG5_3 hG5_4 hG5_5 hG5_6 hG5_7 hG5_8 hG5_9 hG5_10 hG5_11 hG5_12 hG5_13 hG5_14 hG5_15 hG5_16 hG5_17 hG5_18 hG5_19 hG5_20 hG5_21 hG5_22 hG5_23 hG5_24 hG5_25 hG5_26 hG5_27 hG5_28 hG5_29 hG5_30 hG5_31 hG5_32 hG5_33 hG5_34 hG5_35 hG5_36 hG5_37 hG5_38 hG5_39 hG5_40 hG5_41 hG5_42 hG5_43 hG5_44 hG5_45 hG5_46 hG5_47 hG5_48 hG5_49 hG5_51 hG5_52 hG5_53 hG5_54 hG5_55 hG5_56 hG5_57 hG5_58 hG5_59 hG5_60 hG5_61 hG5_62 hG5_63 hG5_64 hG5_65 hG5_66 hG5_67 hG5_68 hG5_69 hG5_70 hG5_71 hG5_72 hG5_73 hG5_77 hG5_78 hG5_79 hG5_80 hG5_81 hG5_82 hG5_83 hG5_84 hG5_85 hG5_86 hG5_87 hG5_88 hG5_89 hG5_90 hG5_91 hG5_92
     refine hGo ?_
     refine At.bStep [3, 7, 9, 10] (by kernel_rfl) (by simp) ?_
     refine ⟨?_, ?_, ?_, ?_⟩
     ·
      refine At.bSQ (some 21) (Q_loadO (k := 2) rfl rfl Try.underlying3 rfl rfl (seg_get (i := 1) (p := 0) rfl LN rfl)) ?_
      refine At.bP  4 (some 22) (P_add_i rfl rfl rfl (by omega)) (by kernel_rfl) (by kernel_rfl) ?_
      exact At.into (hGi (hG5_50 b7)) rfl rfl
     ·
      refine At.bS false (by kernel_rfl) (S_callV (some 25) [(0, _)] [25] (vs := [_]) rfl en58 rfl (VN (by simp) rfl View.all V0) (by simp) (c_CloneEn (L := L) (A := A) (n := n) (c := c) (b := b) (q := q) LN hA OG) (by rintro _ _ ⟨A25, b25, c25, g25a, g25b, rfl, rfl⟩; rfl) ?_)
      rintro _ _ ⟨A25, b25, c25, g25a, g25b, rfl, rfl⟩
      exact At.into (hGi (hG5_74 A25 b25 c25 b7 g25a g25b)) rfl rfl
     ·
      refine At.bSQ (some 27) (Q_loadO (k := 2) rfl rfl Try.underlying3 rfl rfl (seg_get (i := 1) (p := 0) rfl LN rfl)) ?_
      exact At.into (hGi (hG5_75 b7)) rfl rfl
     ·
      refine At.bSQ (some 28) (Q_loadA (k := 3) rfl rfl Try.underlying23 rfl sz23 LN rfl) ?_
      exact At.into (hGi (hG5_76 b7)) rfl rfl
    have hG5_94 (b7 : Nat) : G 10 #[true, true, true, false, false, true, false, false, true, true, false, false, false, false, false, true, false] (frOf [(2, ptr b2 0), (3, ptr b3 0), (4, ptr b4 0), (5, iV 0), (6, iV 0), (7, ptr b7 0), (19, aggK key), (20, ptr b2 32), (23, ptr b2 33), (27, iV next)]) (hOf [(0, ⟨false, b, q, 0, encs EntE L, 0⟩), (2, ⟨true, b2, 0, 40, [(key).map u8V, [iV next, .slice A n c]].flatten, 0⟩), (3, ⟨true, b3, 0, 23, (psk).map u8V, 0⟩), (4, ⟨true, b4, 0, 40, [(List.replicate 32 0#8).map u8V, [iV 0, .slice none 0 0]].flatten, 0⟩), (7, ⟨true, b7, 0, 40, [(List.replicate 32 0#8).map u8V, [iV 0, .slice none 0 0]].flatten, 0⟩)]) := by
     clear hG5_0 hG5_1 hG5_2 hG5_3 hG5_4 hG5_5 hG5_6 hG5_7 hG5_8 hG5_9 hG5_10 hG5_11 hG5_12 hG5_13 hG5_14 hG5_15 hG5_16 hG5_17 hG5_18 hG5_19 hG5_20 hG5_21 hG5_22 hG5_23 hG5_24 hG5_25 hG5_26 hG5_27 hG5_28 hG5_29 hG5_30 hG5_31 hG5_32 hG5_33 hG5_34 hG5_35 hG5_36 hG5_37 hG5_38 hG5_39 hG5_40 hG5_41 hG5_42 hG5_43 hG5_44 hG5_45 hG5_46 hG5_47 hG5_48 hG5_49 hG5_50 hG5_52 hG5_53 hG5_54 hG5_55 hG5_56 hG5_58 hG5_59 hG5_60 hG5_61 hG5_62 hG5_63 hG5_64 hG5_65 hG5_66 hG5_67 hG5_68 hG5_69 hG5_70 hG5_71 hG5_72 hG5_73 hG5_74 hG5_76 hG5_77 hG5_78 hG5_79 hG5_80 hG5_81 hG5_82 hG5_83 hG5_84 hG5_85 hG5_86 hG5_87 hG5_88 hG5_89 hG5_90 hG5_91 hG5_92 hG5_93
     refine hGo ?_
     refine At.bStep [3, 6, 10] (by kernel_rfl) (by simp) ?_
     refine ⟨?_, ?_, ?_⟩
     ·
      refine At.bSQ (some 21) (Q_loadO (k := 2) rfl rfl Try.underlying3 rfl rfl (seg_get (i := 1) (p := 0) rfl LN rfl)) ?_
      refine At.bP  4 (some 22) (P_add_i rfl rfl rfl (by omega)) (by kernel_rfl) (by kernel_rfl) ?_
      exact At.into (hGi (hG5_51 b7)) rfl rfl
     ·
      refine At.bSQ (some 24) (Q_loadO (k := 2) rfl rfl Try.underlying38 rfl rfl (seg_get (i := 1) (p := 1) rfl LN rfl)) ?_
      exact At.into (hGi (hG5_75 b7)) rfl rfl
     ·
      refine At.bSQ (some 28) (Q_loadA (k := 3) rfl rfl Try.underlying23 rfl sz23 LN rfl) ?_
      refine At.bP  11 (some 29) (P_build_struct (cs := ([[iV next], (psk).map u8V].flatten).toArray) (parts := _) (vs := [(0, _), (1, _)]) rfl Try.underlying96 ze96 pl96 rfl (by show Instr.fill _ ([[iV 0], (List.replicate 32 0#8).map u8V].flatten).toArray _ = _; refine fill_seg (k := 0) (vs := [iV next]) rfl rfl LN rfl LN LN ?_; refine fill_seg (k := 1) (vs := (psk).map u8V) rfl rfl LN rfl LN LN ?_; exact fill_end (by simp))) (by kernel_rfl) (by kernel_rfl) ?_
      exact At.into (hGi (hG5_57 b7)) rfl rfl
    have hG5_95 (b7 : Nat) : G 10 #[true, true, true, false, false, true, false, false, true, false, true, false, false, false, false, true, false] (frOf [(2, ptr b2 0), (4, ptr b4 0), (5, iV 0), (6, iV 0), (7, ptr b7 0), (19, aggK key), (20, ptr b2 32), (23, ptr b2 33), (26, ptr b2 32), (28, aggK psk)]) (hOf [(0, ⟨false, b, q, 0, encs EntE L, 0⟩), (2, ⟨true, b2, 0, 40, [(key).map u8V, [iV next, .slice A n c]].flatten, 0⟩), (4, ⟨true, b4, 0, 40, [(List.replicate 32 0#8).map u8V, [iV 0, .slice none 0 0]].flatten, 0⟩), (7, ⟨true, b7, 0, 40, [(List.replicate 32 0#8).map u8V, [iV 0, .slice none 0 0]].flatten, 0⟩)]) := by
     clear hG5_0 hG5_1 hG5_2 hG5_3 hG5_4 hG5_5 hG5_6 hG5_7 hG5_8 hG5_9 hG5_10 hG5_11 hG5_12 hG5_13 hG5_14 hG5_15 hG5_16 hG5_17 hG5_18 hG5_19 hG5_20 hG5_21 hG5_22 hG5_23 hG5_24 hG5_25 hG5_26 hG5_27 hG5_28 hG5_29 hG5_30 hG5_31 hG5_32 hG5_33 hG5_34 hG5_35 hG5_36 hG5_37 hG5_38 hG5_39 hG5_40 hG5_41 hG5_42 hG5_43 hG5_44 hG5_45 hG5_46 hG5_47 hG5_48 hG5_49 hG5_50 hG5_51 hG5_53 hG5_54 hG5_55 hG5_56 hG5_58 hG5_59 hG5_60 hG5_61 hG5_62 hG5_63 hG5_64 hG5_65 hG5_66 hG5_67 hG5_68 hG5_69 hG5_70 hG5_71 hG5_72 hG5_73 hG5_74 hG5_75 hG5_77 hG5_78 hG5_79 hG5_80 hG5_81 hG5_82 hG5_83 hG5_84 hG5_85 hG5_86 hG5_87 hG5_88 hG5_89 hG5_90 hG5_91 hG5_92 hG5_93 hG5_94
     refine hGo ?_
     refine At.bStep [3, 6, 9] (by kernel_rfl) (by simp) ?_
     refine ⟨?_, ?_, ?_⟩
     ·
      refine At.bSQ (some 21) (Q_loadO (k := 2) rfl rfl Try.underlying3 rfl rfl (seg_get (i := 1) (p := 0) rfl LN rfl)) ?_
      refine At.bP  4 (some 22) (P_add_i rfl rfl rfl (by omega)) (by kernel_rfl) (by kernel_rfl) ?_
      exact At.into (hGi (hG5_52 b7)) rfl rfl
     ·
      refine At.bSQ (some 24) (Q_loadO (k := 2) rfl rfl Try.underlying38 rfl rfl (seg_get (i := 1) (p := 1) rfl LN rfl)) ?_
      exact At.into (hGi (hG5_76 b7)) rfl rfl
     ·
      refine At.bSQ (some 27) (Q_loadO (k := 2) rfl rfl Try.underlying3 rfl rfl (seg_get (i := 1) (p := 0) rfl LN rfl)) ?_
      refine At.bP  11 (some 29) (P_build_struct (cs := ([[iV next], (psk).map u8V].flatten).toArray) (parts := _) (vs := [(0, _), (1, _)]) rfl Try.underlying96 ze96 pl96 rfl (by show Instr.fill _ ([[iV 0], (List.replicate 32 0#8).map u8V].flatten).toArray _ = _; refine fill_seg (k := 0) (vs := [iV next]) rfl rfl LN rfl LN LN ?_; refine fill_seg (k := 1) (vs := (psk).map u8V) rfl rfl LN rfl LN LN ?_; exact fill_end (by simp))) (by kernel_rfl) (by kernel_rfl) ?_
      exact At.into (hGi (hG5_57 b7)) rfl rfl
    have hG5_96  : G 10 #[true, false, true, true, true, true, true, false, true, false, false, false, false, false, false, false, false] (frOf [(2, ptr b2 0), (3, ptr b3 0), (4, ptr b4 0), (5, iV 0), (6, iV 0), (18, ptr b2 0), (22, iV (next + 1)), (24, .slice A n c), (26, ptr b2 32)]) (hOf [(0, ⟨false, b, q, 0, encs EntE L, 0⟩), (2, ⟨true, b2, 0, 40, [(key).map u8V, [iV next, .slice A n c]].flatten, 0⟩), (3, ⟨true, b3, 0, 23, (psk).map u8V, 0⟩), (4, ⟨true, b4, 0, 40, [(List.replicate 32 0#8).map u8V, [iV 0, .slice none 0 0]].flatten, 0⟩)]) := by
     clear hG5_0 hG5_1 hG5_2 hG5_3 hG5_4 hG5_5 hG5_6 hG5_7 hG5_8 hG5_9 hG5_10 hG5_11 hG5_12 hG5_13 hG5_14 hG5_15 hG5_16 hG5_17 hG5_18 hG5_19 hG5_20 hG5_21 hG5_22 hG5_23 hG5_24 hG5_25 hG5_26 hG5_27 hG5_28 hG5_29 hG5_30 hG5_31 hG5_32 hG5_33 hG5_34 hG5_35 hG5_36 hG5_37 hG5_38 hG5_39 hG5_40 hG5_41 hG5_42 hG5_43 hG5_44 hG5_45 hG5_46 hG5_47 hG5_48 hG5_49 hG5_50 hG5_51 hG5_52 hG5_53 hG5_54 hG5_55 hG5_56 hG5_57 hG5_58 hG5_59 hG5_60 hG5_61 hG5_62 hG5_63 hG5_64 hG5_65 hG5_66 hG5_67 hG5_69 hG5_70 hG5_71 hG5_72 hG5_73 hG5_74 hG5_75 hG5_76 hG5_77 hG5_82 hG5_83 hG5_84 hG5_85 hG5_86 hG5_87 hG5_88 hG5_89 hG5_90 hG5_91 hG5_92 hG5_93 hG5_94 hG5_95
     refine hGo ?_
     refine At.bStep [1, 7, 9, 10, 15] (by kernel_rfl) (by simp) ?_
     refine ⟨?_, ?_, ?_, ?_, ?_⟩
     ·
      refine At.bSQ (some 19) (Q_loadN (k := 2) (j := 0) (cs := (key).map u8V) rfl rfl Try.underlying23 rfl sz23 rfl rfl rfl (seg_at (i := 0) rfl LN LN) LN) ?_
      exact At.into (hGi (hG5_68 )) rfl rfl
     ·
      refine At.bS false (by kernel_rfl) (S_callV (some 25) [(0, _)] [25] (vs := [_]) rfl en58 rfl (VN (by simp) rfl View.all V0) (by simp) (c_CloneEn (L := L) (A := A) (n := n) (c := c) (b := b) (q := q) LN hA OG) (by rintro _ _ ⟨A25, b25, c25, g25a, g25b, rfl, rfl⟩; rfl) ?_)
      rintro _ _ ⟨A25, b25, c25, g25a, g25b, rfl, rfl⟩
      exact At.into (hGi (hG5_78 A25 b25 c25 g25a g25b)) rfl rfl
     ·
      refine At.bSQ (some 27) (Q_loadO (k := 2) rfl rfl Try.underlying3 rfl rfl (seg_get (i := 1) (p := 0) rfl LN rfl)) ?_
      exact At.into (hGi (hG5_79 )) rfl rfl
     ·
      refine At.bSQ (some 28) (Q_loadA (k := 3) rfl rfl Try.underlying23 rfl sz23 LN rfl) ?_
      exact At.into (hGi (hG5_80 )) rfl rfl
     ·
      refine At.bS false (by kernel_rfl) (S_alloc (some 7) 7 (zs := [(List.replicate 32 0#8).map u8V, [iV 0, .slice none 0 0]].flatten) rfl ze40 rfl (fun b7 => ?_))
      exact At.into (hGi (hG5_81 b7)) rfl rfl
    have hG5_97  : G 10 #[true, false, true, true, true, true, false, false, true, true, false, false, false, false, false, false, false] (frOf [(2, ptr b2 0), (3, ptr b3 0), (4, ptr b4 0), (5, iV 0), (6, iV 0), (18, ptr b2 0), (22, iV (next + 1)), (23, ptr b2 33), (27, iV next)]) (hOf [(0, ⟨false, b, q, 0, encs EntE L, 0⟩), (2, ⟨true, b2, 0, 40, [(key).map u8V, [iV next, .slice A n c]].flatten, 0⟩), (3, ⟨true, b3, 0, 23, (psk).map u8V, 0⟩), (4, ⟨true, b4, 0, 40, [(List.replicate 32 0#8).map u8V, [iV 0, .slice none 0 0]].flatten, 0⟩)]) := by
     clear hG5_0 hG5_1 hG5_2 hG5_3 hG5_4 hG5_5 hG5_6 hG5_7 hG5_8 hG5_9 hG5_10 hG5_11 hG5_12 hG5_13 hG5_14 hG5_15 hG5_16 hG5_17 hG5_18 hG5_19 hG5_20 hG5_21 hG5_22 hG5_23 hG5_24 hG5_25 hG5_26 hG5_27 hG5_28 hG5_29 hG5_30 hG5_31 hG5_32 hG5_33 hG5_34 hG5_35 hG5_36 hG5_37 hG5_38 hG5_39 hG5_40 hG5_41 hG5_42 hG5_43 hG5_44 hG5_45 hG5_46 hG5_47 hG5_48 hG5_49 hG5_50 hG5_51 hG5_52 hG5_53 hG5_54 hG5_55 hG5_56 hG5_57 hG5_58 hG5_59 hG5_60 hG5_61 hG5_62 hG5_64 hG5_65 hG5_66 hG5_67 hG5_68 hG5_70 hG5_71 hG5_72 hG5_73 hG5_74 hG5_75 hG5_76 hG5_77 hG5_78 hG5_80 hG5_81 hG5_83 hG5_84 hG5_85 hG5_86 hG5_87 hG5_88 hG5_89 hG5_90 hG5_91 hG5_92 hG5_93 hG5_94 hG5_95 hG5_96
     refine hGo ?_
     refine At.bStep [1, 6, 10, 15] (by kernel_rfl) (by simp) ?_
     refine ⟨?_, ?_, ?_, ?_⟩
     ·
      refine At.bSQ (some 19) (Q_loadN (k := 2) (j := 0) (cs := (key).map u8V) rfl rfl Try.underlying23 rfl sz23 rfl rfl rfl (seg_at (i := 0) rfl LN LN) LN) ?_
      exact At.into (hGi (hG5_69 )) rfl rfl
     ·
      refine At.bSQ (some 24) (Q_loadO (k := 2) rfl rfl Try.underlying38 rfl rfl (seg_get (i := 1) (p := 1) rfl LN rfl)) ?_
      exact At.into (hGi (hG5_79 )) rfl rfl
     ·
      refine At.bSQ (some 28) (Q_loadA (k := 3) rfl rfl Try.underlying23 rfl sz23 LN rfl) ?_
      refine At.bP  11 (some 29) (P_build_struct (cs := ([[iV next], (psk).map u8V].flatten).toArray) (parts := _) (vs := [(0, _), (1, _)]) rfl Try.underlying96 ze96 pl96 rfl (by show Instr.fill _ ([[iV 0], (List.replicate 32 0#8).map u8V].flatten).toArray _ = _; refine fill_seg (k := 0) (vs := [iV next]) rfl rfl LN rfl LN LN ?_; refine fill_seg (k := 1) (vs := (psk).map u8V) rfl rfl LN rfl LN LN ?_; exact fill_end (by simp))) (by kernel_rfl) (by kernel_rfl) ?_
      exact At.into (hGi (hG5_63 )) rfl rfl
     ·
      refine At.bS false (by kernel_rfl) (S_alloc (some 7) 7 (zs := [(List.replicate 32 0#8).map u8V, [iV 0, .slice none 0 0]].flatten) rfl ze40 rfl (fun b7 => ?_))
      exact At.into (hGi (hG5_82 b7)) rfl rfl
    have hG5_98  : G 10 #[true, false, true, true, true, true, false, false, true, false, true, false, false, false, false, false, false] (frOf [(2, ptr b2 0), (4, ptr b4 0), (5, iV 0), (6, iV 0), (18, ptr b2 0), (22, iV (next + 1)), (23, ptr b2 33), (26, ptr b2 32), (28, aggK psk)]) (hOf [(0, ⟨false, b, q, 0, encs EntE L, 0⟩), (2, ⟨true, b2, 0, 40, [(key).map u8V, [iV next, .slice A n c]].flatten, 0⟩), (4, ⟨true, b4, 0, 40, [(List.replicate 32 0#8).map u8V, [iV 0, .slice none 0 0]].flatten, 0⟩)]) := by
     clear hG5_0 hG5_1 hG5_2 hG5_3 hG5_4 hG5_5 hG5_6 hG5_7 hG5_8 hG5_9 hG5_10 hG5_11 hG5_12 hG5_13 hG5_14 hG5_15 hG5_16 hG5_17 hG5_18 hG5_19 hG5_20 hG5_21 hG5_22 hG5_23 hG5_24 hG5_25 hG5_26 hG5_27 hG5_28 hG5_29 hG5_30 hG5_31 hG5_32 hG5_33 hG5_34 hG5_35 hG5_36 hG5_37 hG5_38 hG5_39 hG5_40 hG5_41 hG5_42 hG5_43 hG5_44 hG5_45 hG5_46 hG5_47 hG5_48 hG5_49 hG5_50 hG5_51 hG5_52 hG5_53 hG5_54 hG5_55 hG5_56 hG5_57 hG5_58 hG5_59 hG5_60 hG5_61 hG5_62 hG5_64 hG5_65 hG5_66 hG5_67 hG5_68 hG5_69 hG5_71 hG5_72 hG5_73 hG5_74 hG5_75 hG5_76 hG5_77 hG5_78 hG5_79 hG5_81 hG5_82 hG5_84 hG5_85 hG5_86 hG5_87 hG5_88 hG5_89 hG5_90 hG5_91 hG5_92 hG5_93 hG5_94 hG5_95 hG5_96 hG5_97
     refine hGo ?_
     refine At.bStep [1, 6, 9, 15] (by kernel_rfl) (by simp) ?_
     refine ⟨?_, ?_, ?_, ?_⟩
     ·
      refine At.bSQ (some 19) (Q_loadN (k := 2) (j := 0) (cs := (key).map u8V) rfl rfl Try.underlying23 rfl sz23 rfl rfl rfl (seg_at (i := 0) rfl LN LN) LN) ?_
      exact At.into (hGi (hG5_70 )) rfl rfl
     ·
      refine At.bSQ (some 24) (Q_loadO (k := 2) rfl rfl Try.underlying38 rfl rfl (seg_get (i := 1) (p := 1) rfl LN rfl)) ?_
      exact At.into (hGi (hG5_80 )) rfl rfl
     ·
      refine At.bSQ (some 27) (Q_loadO (k := 2) rfl rfl Try.underlying3 rfl rfl (seg_get (i := 1) (p := 0) rfl LN rfl)) ?_
      refine At.bP  11 (some 29) (P_build_struct (cs := ([[iV next], (psk).map u8V].flatten).toArray) (parts := _) (vs := [(0, _), (1, _)]) rfl Try.underlying96 ze96 pl96 rfl (by show Instr.fill _ ([[iV 0], (List.replicate 32 0#8).map u8V].flatten).toArray _ = _; refine fill_seg (k := 0) (vs := [iV next]) rfl rfl LN rfl LN LN ?_; refine fill_seg (k := 1) (vs := (psk).map u8V) rfl rfl LN rfl LN LN ?_; exact fill_end (by simp))) (by kernel_rfl) (by kernel_rfl) ?_
      exact At.into (hGi (hG5_63 )) rfl rfl
     ·
      refine At.bS false (by kernel_rfl) (S_alloc (some 7) 7 (zs := [(List.replicate 32 0#8).map u8V, [iV 0, .slice none 0 0]].flatten) rfl ze40 rfl (fun b7 => ?_))
      exact At.into (hGi (hG5_83 b7)) rfl rfl
    have hG5_99 (b7 : Nat) : G 10 #[true, false, true, true, true, true, false, false, true, false, false, false, false, false, false, true, false] (frOf [(2, ptr b2 0), (3, ptr b3 0), (4, ptr b4 0), (5, iV 0), (6, iV 0), (7, ptr b7 0), (18, ptr b2 0), (22, iV (next + 1)), (23, ptr b2 33), (26, ptr b2 32)]) (hOf [(0, ⟨false, b, q, 0, encs EntE L, 0⟩), (2, ⟨true, b2, 0, 40, [(key).map u8V, [iV next, .slice A n c]].flatten, 0⟩), (3, ⟨true, b3, 0, 23, (psk).map u8V, 0⟩), (4, ⟨true, b4, 0, 40, [(List.replicate 32 0#8).map u8V, [iV 0, .slice none 0 0]].flatten, 0⟩), (7, ⟨true, b7, 0, 40, [(List.replicate 32 0#8).map u8V, [iV 0, .slice none 0 0]].flatten, 0⟩)]) := by
     clear hG5_0 hG5_1 hG5_2 hG5_3 hG5_4 hG5_5 hG5_6 hG5_7 hG5_8 hG5_9 hG5_10 hG5_11 hG5_12 hG5_13 hG5_14 hG5_15 hG5_16 hG5_17 hG5_18 hG5_19 hG5_20 hG5_21 hG5_22 hG5_23 hG5_24 hG5_25 hG5_26 hG5_27 hG5_28 hG5_29 hG5_30 hG5_31 hG5_32 hG5_33 hG5_34 hG5_35 hG5_36 hG5_37 hG5_38 hG5_39 hG5_40 hG5_41 hG5_42 hG5_43 hG5_44 hG5_45 hG5_46 hG5_47 hG5_48 hG5_49 hG5_50 hG5_51 hG5_52 hG5_53 hG5_54 hG5_55 hG5_56 hG5_57 hG5_58 hG5_59 hG5_60 hG5_61 hG5_62 hG5_63 hG5_64 hG5_65 hG5_66 hG5_67 hG5_68 hG5_69 hG5_70 hG5_72 hG5_73 hG5_74 hG5_75 hG5_76 hG5_77 hG5_78 hG5_79 hG5_80 hG5_84 hG5_85 hG5_86 hG5_87 hG5_88 hG5_89 hG5_90 hG5_91 hG5_92 hG5_93 hG5_94 hG5_95 hG5_96 hG5_97 hG5_98
     refine hGo ?_
     refine At.bStep [1, 6, 9, 10] (by kernel_rfl) (by simp) ?_
     refine ⟨?_, ?_, ?_, ?_⟩
     ·
      refine At.bSQ (some 19) (Q_loadN (k := 2) (j := 0) (cs := (key).map u8V) rfl rfl Try.underlying23 rfl sz23 rfl rfl rfl (seg_at (i := 0) rfl LN LN) LN) ?_
      exact At.into (hGi (hG5_71 b7)) rfl rfl
     ·
      refine At.bSQ (some 24) (Q_loadO (k := 2) rfl rfl Try.underlying38 rfl rfl (seg_get (i := 1) (p := 1) rfl LN rfl)) ?_
      exact At.into (hGi (hG5_81 b7)) rfl rfl
     ·
      refine At.bSQ (some 27) (Q_loadO (k := 2) rfl rfl Try.underlying3 rfl rfl (seg_get (i := 1) (p := 0) rfl LN rfl)) ?_
      exact At.into (hGi (hG5_82 b7)) rfl rfl
     ·
      refine At.bSQ (some 28) (Q_loadA (k := 3) rfl rfl Try.underlying23 rfl sz23 LN rfl) ?_
      exact At.into (hGi (hG5_83 b7)) rfl rfl
    have hG5_100 (A25 : Option Addr) (b25 c25 : Nat) (g25a : 0 < c25 → A25 = some ⟨b25, 0, none⟩) (g25b : L.length ≤ c25) : G 10 #[true, false, true, false, false, true, true, true, true, true, false, false, false, false, false, false, false] (frOf [(2, ptr b2 0), (3, ptr b3 0), (4, ptr b4 0), (5, iV 0), (6, iV 0), (18, ptr b2 0), (20, ptr b2 32), (25, .slice A25 L.length c25), (27, iV next)]) (hOf [(0, ⟨false, b, q, 0, encs EntE L, 0⟩), (2, ⟨true, b2, 0, 40, [(key).map u8V, [iV next, .slice A n c]].flatten, 0⟩), (3, ⟨true, b3, 0, 23, (psk).map u8V, 0⟩), (4, ⟨true, b4, 0, 40, [(List.replicate 32 0#8).map u8V, [iV 0, .slice none 0 0]].flatten, 0⟩), (25, ⟨true, b25, 0, 96, encs EntE L, (c25 - (L).length) * 33⟩)]) := by
     clear hG5_0 hG5_1 hG5_2 hG5_3 hG5_4 hG5_5 hG5_6 hG5_7 hG5_8 hG5_9 hG5_10 hG5_11 hG5_12 hG5_13 hG5_14 hG5_15 hG5_16 hG5_17 hG5_18 hG5_19 hG5_20 hG5_21 hG5_22 hG5_23 hG5_24 hG5_25 hG5_26 hG5_27 hG5_28 hG5_29 hG5_30 hG5_31 hG5_32 hG5_33 hG5_34 hG5_35 hG5_36 hG5_37 hG5_38 hG5_39 hG5_40 hG5_41 hG5_42 hG5_43 hG5_44 hG5_45 hG5_46 hG5_47 hG5_48 hG5_49 hG5_50 hG5_51 hG5_52 hG5_53 hG5_54 hG5_55 hG5_56 hG5_57 hG5_59 hG5_60 hG5_61 hG5_62 hG5_63 hG5_65 hG5_66 hG5_67 hG5_68 hG5_69 hG5_70 hG5_71 hG5_73 hG5_74 hG5_75 hG5_76 hG5_77 hG5_78 hG5_79 hG5_80 hG5_81 hG5_82 hG5_83 hG5_85 hG5_86 hG5_87 hG5_88 hG5_89 hG5_90 hG5_91 hG5_92 hG5_93 hG5_94 hG5_95 hG5_96 hG5_97 hG5_98 hG5_99
     refine hGo ?_
     refine At.bStep [1, 3, 10, 15] (by kernel_rfl) (by simp) ?_
     refine ⟨?_, ?_, ?_, ?_⟩
     ·
      refine At.bSQ (some 19) (Q_loadN (k := 2) (j := 0) (cs := (key).map u8V) rfl rfl Try.underlying23 rfl sz23 rfl rfl rfl (seg_at (i := 0) rfl LN LN) LN) ?_
      exact At.into (hGi (hG5_72 A25 b25 c25 g25a g25b)) rfl rfl
     ·
      refine At.bSQ (some 21) (Q_loadO (k := 2) rfl rfl Try.underlying3 rfl rfl (seg_get (i := 1) (p := 0) rfl LN rfl)) ?_
      refine At.bP  4 (some 22) (P_add_i rfl rfl rfl (by omega)) (by kernel_rfl) (by kernel_rfl) ?_
      exact At.into (hGi (hG5_58 A25 b25 c25 g25a g25b)) rfl rfl
     ·
      refine At.bSQ (some 28) (Q_loadA (k := 3) rfl rfl Try.underlying23 rfl sz23 LN rfl) ?_
      refine At.bP  11 (some 29) (P_build_struct (cs := ([[iV next], (psk).map u8V].flatten).toArray) (parts := _) (vs := [(0, _), (1, _)]) rfl Try.underlying96 ze96 pl96 rfl (by show Instr.fill _ ([[iV 0], (List.replicate 32 0#8).map u8V].flatten).toArray _ = _; refine fill_seg (k := 0) (vs := [iV next]) rfl rfl LN rfl LN LN ?_; refine fill_seg (k := 1) (vs := (psk).map u8V) rfl rfl LN rfl LN LN ?_; exact fill_end (by simp))) (by kernel_rfl) (by kernel_rfl) ?_
      exact At.into (hGi (hG5_64 A25 b25 c25 g25a g25b)) rfl rfl
     ·
      refine At.bS false (by kernel_rfl) (S_alloc (some 7) 7 (zs := [(List.replicate 32 0#8).map u8V, [iV 0, .slice none 0 0]].flatten) rfl ze40 rfl (fun b7 => ?_))
      exact At.into (hGi (hG5_84 A25 b25 c25 b7 g25a g25b)) rfl rfl
    have hG5_101 (A25 : Option Addr) (b25 c25 : Nat) (g25a : 0 < c25 → A25 = some ⟨b25, 0, none⟩) (g25b : L.length ≤ c25) : G 10 #[true, false, true, false, false, true, true, true, true, false, true, false, false, false, false, false, false] (frOf [(2, ptr b2 0), (4, ptr b4 0), (5, iV 0), (6, iV 0), (18, ptr b2 0), (20, ptr b2 32), (25, .slice A25 L.length c25), (26, ptr b2 32), (28, aggK psk)]) (hOf [(0, ⟨false, b, q, 0, encs EntE L, 0⟩), (2, ⟨true, b2, 0, 40, [(key).map u8V, [iV next, .slice A n c]].flatten, 0⟩), (4, ⟨true, b4, 0, 40, [(List.replicate 32 0#8).map u8V, [iV 0, .slice none 0 0]].flatten, 0⟩), (25, ⟨true, b25, 0, 96, encs EntE L, (c25 - (L).length) * 33⟩)]) := by
     clear hG5_0 hG5_1 hG5_2 hG5_3 hG5_4 hG5_5 hG5_6 hG5_7 hG5_8 hG5_9 hG5_10 hG5_11 hG5_12 hG5_13 hG5_14 hG5_15 hG5_16 hG5_17 hG5_18 hG5_19 hG5_20 hG5_21 hG5_22 hG5_23 hG5_24 hG5_25 hG5_26 hG5_27 hG5_28 hG5_29 hG5_30 hG5_31 hG5_32 hG5_33 hG5_34 hG5_35 hG5_36 hG5_37 hG5_38 hG5_39 hG5_40 hG5_41 hG5_42 hG5_43 hG5_44 hG5_45 hG5_46 hG5_47 hG5_48 hG5_49 hG5_50 hG5_51 hG5_52 hG5_53 hG5_54 hG5_55 hG5_56 hG5_57 hG5_58 hG5_60 hG5_61 hG5_62 hG5_63 hG5_65 hG5_66 hG5_67 hG5_68 hG5_69 hG5_70 hG5_71 hG5_72 hG5_74 hG5_75 hG5_76 hG5_77 hG5_78 hG5_79 hG5_80 hG5_81 hG5_82 hG5_83 hG5_84 hG5_86 hG5_87 hG5_88 hG5_89 hG5_90 hG5_91 hG5_92 hG5_93 hG5_94 hG5_95 hG5_96 hG5_97 hG5_98 hG5_99 hG5_100
     refine hGo ?_
     refine At.bStep [1, 3, 9, 15] (by kernel_rfl) (by simp) ?_
     refine ⟨?_, ?_, ?_, ?_⟩
     ·
      refine At.bSQ (some 19) (Q_loadN (k := 2) (j := 0) (cs := (key).map u8V) rfl rfl Try.underlying23 rfl sz23 rfl rfl rfl (seg_at (i := 0) rfl LN LN) LN) ?_
      exact At.into (hGi (hG5_73 A25 b25 c25 g25a g25b)) rfl rfl
     ·
      refine At.bSQ (some 21) (Q_loadO (k := 2) rfl rfl Try.underlying3 rfl rfl (seg_get (i := 1) (p := 0) rfl LN rfl)) ?_
      refine At.bP  4 (some 22) (P_add_i rfl rfl rfl (by omega)) (by kernel_rfl) (by kernel_rfl) ?_
      exact At.into (hGi (hG5_59 A25 b25 c25 g25a g25b)) rfl rfl
     ·
      refine At.bSQ (some 27) (Q_loadO (k := 2) rfl rfl Try.underlying3 rfl rfl (seg_get (i := 1) (p := 0) rfl LN rfl)) ?_
      refine At.bP  11 (some 29) (P_build_struct (cs := ([[iV next], (psk).map u8V].flatten).toArray) (parts := _) (vs := [(0, _), (1, _)]) rfl Try.underlying96 ze96 pl96 rfl (by show Instr.fill _ ([[iV 0], (List.replicate 32 0#8).map u8V].flatten).toArray _ = _; refine fill_seg (k := 0) (vs := [iV next]) rfl rfl LN rfl LN LN ?_; refine fill_seg (k := 1) (vs := (psk).map u8V) rfl rfl LN rfl LN LN ?_; exact fill_end (by simp))) (by kernel_rfl) (by kernel_rfl) ?_
      exact At.into (hGi (hG5_64 A25 b25 c25 g25a g25b)) rfl rfl
     ·
      refine At.bS false (by kernel_rfl) (S_alloc (some 7) 7 (zs := [(List.replicate 32 0#8).map u8V, [iV 0, .slice none 0 0]].flatten) rfl ze40 rfl (fun b7 => ?_))
      exact At.into (hGi (hG5_85 A25 b25 c25 b7 g25a g25b)) rfl rfl
    have hG5_102 (A25 : Option Addr) (b25 c25 : Nat) (b7 : Nat) (g25a : 0 < c25 → A25 = some ⟨b25, 0, none⟩) (g25b : L.length ≤ c25) : G 10 #[true, false, true, false, false, true, true, true, true, false, false, false, false, false, false, true, false] (frOf [(2, ptr b2 0), (3, ptr b3 0), (4, ptr b4 0), (5, iV 0), (6, iV 0), (7, ptr b7 0), (18, ptr b2 0), (20, ptr b2 32), (25, .slice A25 L.length c25), (26, ptr b2 32)]) (hOf [(0, ⟨false, b, q, 0, encs EntE L, 0⟩), (2, ⟨true, b2, 0, 40, [(key).map u8V, [iV next, .slice A n c]].flatten, 0⟩), (3, ⟨true, b3, 0, 23, (psk).map u8V, 0⟩), (4, ⟨true, b4, 0, 40, [(List.replicate 32 0#8).map u8V, [iV 0, .slice none 0 0]].flatten, 0⟩), (7, ⟨true, b7, 0, 40, [(List.replicate 32 0#8).map u8V, [iV 0, .slice none 0 0]].flatten, 0⟩), (25, ⟨true, b25, 0, 96, encs EntE L, (c25 - (L).length) * 33⟩)]) := by
     clear hG5_0 hG5_1 hG5_2 hG5_3 hG5_4 hG5_5 hG5_6 hG5_7 hG5_8 hG5_9 hG5_10 hG5_11 hG5_12 hG5_13 hG5_14 hG5_15 hG5_16 hG5_17 hG5_18 hG5_19 hG5_20 hG5_21 hG5_22 hG5_23 hG5_24 hG5_25 hG5_26 hG5_27 hG5_28 hG5_29 hG5_30 hG5_31 hG5_32 hG5_33 hG5_34 hG5_35 hG5_36 hG5_37 hG5_38 hG5_39 hG5_40 hG5_41 hG5_42 hG5_43 hG5_44 hG5_45 hG5_46 hG5_47 hG5_48 hG5_49 hG5_50 hG5_51 hG5_52 hG5_53 hG5_54 hG5_55 hG5_56 hG5_57 hG5_58 hG5_59 hG5_61 hG5_62 hG5_63 hG5_64 hG5_65 hG5_66 hG5_67 hG5_68 hG5_69 hG5_70 hG5_71 hG5_72 hG5_73 hG5_75 hG5_76 hG5_77 hG5_78 hG5_79 hG5_80 hG5_81 hG5_82 hG5_83 hG5_86 hG5_87 hG5_88 hG5_89 hG5_90 hG5_91 hG5_92 hG5_93 hG5_94 hG5_95 hG5_96 hG5_97 hG5_98 hG5_99 hG5_100 hG5_101
     refine hGo ?_
     refine At.bStep [1, 3, 9, 10] (by kernel_rfl) (by simp) ?_
     refine ⟨?_, ?_, ?_, ?_⟩
     ·
      refine At.bSQ (some 19) (Q_loadN (k := 2) (j := 0) (cs := (key).map u8V) rfl rfl Try.underlying23 rfl sz23 rfl rfl rfl (seg_at (i := 0) rfl LN LN) LN) ?_
      exact At.into (hGi (hG5_74 A25 b25 c25 b7 g25a g25b)) rfl rfl
     ·
      refine At.bSQ (some 21) (Q_loadO (k := 2) rfl rfl Try.underlying3 rfl rfl (seg_get (i := 1) (p := 0) rfl LN rfl)) ?_
      refine At.bP  4 (some 22) (P_add_i rfl rfl rfl (by omega)) (by kernel_rfl) (by kernel_rfl) ?_
      exact At.into (hGi (hG5_60 A25 b25 c25 b7 g25a g25b)) rfl rfl
     ·
      refine At.bSQ (some 27) (Q_loadO (k := 2) rfl rfl Try.underlying3 rfl rfl (seg_get (i := 1) (p := 0) rfl LN rfl)) ?_
      exact At.into (hGi (hG5_84 A25 b25 c25 b7 g25a g25b)) rfl rfl
     ·
      refine At.bSQ (some 28) (Q_loadA (k := 3) rfl rfl Try.underlying23 rfl sz23 LN rfl) ?_
      exact At.into (hGi (hG5_85 A25 b25 c25 b7 g25a g25b)) rfl rfl
    have hG5_103 (b7 : Nat) : G 10 #[true, false, true, false, false, true, true, false, true, true, false, false, false, false, false, true, false] (frOf [(2, ptr b2 0), (3, ptr b3 0), (4, ptr b4 0), (5, iV 0), (6, iV 0), (7, ptr b7 0), (18, ptr b2 0), (20, ptr b2 32), (24, .slice A n c), (27, iV next)]) (hOf [(0, ⟨false, b, q, 0, encs EntE L, 0⟩), (2, ⟨true, b2, 0, 40, [(key).map u8V, [iV next, .slice A n c]].flatten, 0⟩), (3, ⟨true, b3, 0, 23, (psk).map u8V, 0⟩), (4, ⟨true, b4, 0, 40, [(List.replicate 32 0#8).map u8V, [iV 0, .slice none 0 0]].flatten, 0⟩), (7, ⟨true, b7, 0, 40, [(List.replicate 32 0#8).map u8V, [iV 0, .slice none 0 0]].flatten, 0⟩)]) := by
     clear hG5_0 hG5_1 hG5_2 hG5_3 hG5_4 hG5_5 hG5_6 hG5_7 hG5_8 hG5_9 hG5_10 hG5_11 hG5_12 hG5_13 hG5_14 hG5_15 hG5_16 hG5_17 hG5_18 hG5_19 hG5_20 hG5_21 hG5_22 hG5_23 hG5_24 hG5_25 hG5_26 hG5_27 hG5_28 hG5_29 hG5_30 hG5_31 hG5_32 hG5_33 hG5_34 hG5_35 hG5_36 hG5_37 hG5_38 hG5_39 hG5_40 hG5_41 hG5_42 hG5_43 hG5_44 hG5_45 hG5_46 hG5_47 hG5_48 hG5_49 hG5_50 hG5_51 hG5_52 hG5_53 hG5_54 hG5_55 hG5_56 hG5_57 hG5_58 hG5_59 hG5_60 hG5_62 hG5_63 hG5_64 hG5_65 hG5_67 hG5_68 hG5_69 hG5_70 hG5_71 hG5_72 hG5_73 hG5_74 hG5_76 hG5_77 hG5_78 hG5_79 hG5_80 hG5_81 hG5_82 hG5_83 hG5_85 hG5_86 hG5_87 hG5_88 hG5_89 hG5_90 hG5_91 hG5_92 hG5_93 hG5_94 hG5_95 hG5_96 hG5_97 hG5_98 hG5_99 hG5_100 hG5_101 hG5_102
     refine hGo ?_
     refine At.bStep [1, 3, 7, 10] (by kernel_rfl) (by simp) ?_
     refine ⟨?_, ?_, ?_, ?_⟩
     ·
      refine At.bSQ (some 19) (Q_loadN (k := 2) (j := 0) (cs := (key).map u8V) rfl rfl Try.underlying23 rfl sz23 rfl rfl rfl (seg_at (i := 0) rfl LN LN) LN) ?_
      exact At.into (hGi (hG5_75 b7)) rfl rfl
     ·
      refine At.bSQ (some 21) (Q_loadO (k := 2) rfl rfl Try.underlying3 rfl rfl (seg_get (i := 1) (p := 0) rfl LN rfl)) ?_
      refine At.bP  4 (some 22) (P_add_i rfl rfl rfl (by omega)) (by kernel_rfl) (by kernel_rfl) ?_
      exact At.into (hGi (hG5_61 b7)) rfl rfl
     ·
      refine At.bS false (by kernel_rfl) (S_callV (some 25) [(0, _)] [25] (vs := [_]) rfl en58 rfl (VN (by simp) rfl View.all V0) (by simp) (c_CloneEn (L := L) (A := A) (n := n) (c := c) (b := b) (q := q) LN hA OG) (by rintro _ _ ⟨A25, b25, c25, g25a, g25b, rfl, rfl⟩; rfl) ?_)
      rintro _ _ ⟨A25, b25, c25, g25a, g25b, rfl, rfl⟩
      exact At.into (hGi (hG5_84 A25 b25 c25 b7 g25a g25b)) rfl rfl
     ·
      refine At.bSQ (some 28) (Q_loadA (k := 3) rfl rfl Try.underlying23 rfl sz23 LN rfl) ?_
      refine At.bP  11 (some 29) (P_build_struct (cs := ([[iV next], (psk).map u8V].flatten).toArray) (parts := _) (vs := [(0, _), (1, _)]) rfl Try.underlying96 ze96 pl96 rfl (by show Instr.fill _ ([[iV 0], (List.replicate 32 0#8).map u8V].flatten).toArray _ = _; refine fill_seg (k := 0) (vs := [iV next]) rfl rfl LN rfl LN LN ?_; refine fill_seg (k := 1) (vs := (psk).map u8V) rfl rfl LN rfl LN LN ?_; exact fill_end (by simp))) (by kernel_rfl) (by kernel_rfl) ?_
      exact At.into (hGi (hG5_66 b7)) rfl rfl
    have hG5_104 (b7 : Nat) : G 10 #[true, false, true, false, false, true, true, false, true, false, true, false, false, false, false, true, false] (frOf [(2, ptr b2 0), (4, ptr b4 0), (5, iV 0), (6, iV 0), (7, ptr b7 0), (18, ptr b2 0), (20, ptr b2 32), (24, .slice A n c), (26, ptr b2 32), (28, aggK psk)]) (hOf [(0, ⟨false, b, q, 0, encs EntE L, 0⟩), (2, ⟨true, b2, 0, 40, [(key).map u8V, [iV next, .slice A n c]].flatten, 0⟩), (4, ⟨true, b4, 0, 40, [(List.replicate 32 0#8).map u8V, [iV 0, .slice none 0 0]].flatten, 0⟩), (7, ⟨true, b7, 0, 40, [(List.replicate 32 0#8).map u8V, [iV 0, .slice none 0 0]].flatten, 0⟩)]) := by
     clear hG5_0 hG5_1 hG5_2 hG5_3 hG5_4 hG5_5 hG5_6 hG5_7 hG5_8 hG5_9 hG5_10 hG5_11 hG5_12 hG5_13 hG5_14 hG5_15 hG5_16 hG5_17 hG5_18 hG5_19 hG5_20 hG5_21 hG5_22 hG5_23 hG5_24 hG5_25 hG5_26 hG5_27 hG5_28 hG5_29 hG5_30 hG5_31 hG5_32 hG5_33 hG5_34 hG5_35 hG5_36 hG5_37 hG5_38 hG5_39 hG5_40 hG5_41 hG5_42 hG5_43 hG5_44 hG5_45 hG5_46 hG5_47 hG5_48 hG5_49 hG5_50 hG5_51 hG5_52 hG5_53 hG5_54 hG5_55 hG5_56 hG5_57 hG5_58 hG5_59 hG5_60 hG5_61 hG5_63 hG5_64 hG5_65 hG5_67 hG5_68 hG5_69 hG5_70 hG5_71 hG5_72 hG5_73 hG5_74 hG5_75 hG5_77 hG5_78 hG5_79 hG5_80 hG5_81 hG5_82 hG5_83 hG5_84 hG5_86 hG5_87 hG5_88 hG5_89 hG5_90 hG5_91 hG5_92 hG5_93 hG5_94 hG5_95 hG5_96 hG5_97 hG5_98 hG5_99 hG5_100 hG5_101 hG5_102 hG5_103
     refine hGo ?_
     refine At.bStep [1, 3, 7, 9] (by kernel_rfl) (by simp) ?_
     refine ⟨?_, ?_, ?_, ?_⟩
     ·
      refine At.bSQ (some 19) (Q_loadN (k := 2) (j := 0) (cs := (key).map u8V) rfl rfl Try.underlying23 rfl sz23 rfl rfl rfl (seg_at (i := 0) rfl LN LN) LN) ?_
      exact At.into (hGi (hG5_76 b7)) rfl rfl
     ·
      refine At.bSQ (some 21) (Q_loadO (k := 2) rfl rfl Try.underlying3 rfl rfl (seg_get (i := 1) (p := 0) rfl LN rfl)) ?_
      refine At.bP  4 (some 22) (P_add_i rfl rfl rfl (by omega)) (by kernel_rfl) (by kernel_rfl) ?_
      exact At.into (hGi (hG5_62 b7)) rfl rfl
     ·
      refine At.bS false (by kernel_rfl) (S_callV (some 25) [(0, _)] [25] (vs := [_]) rfl en58 rfl (VN (by simp) rfl View.all V0) (by simp) (c_CloneEn (L := L) (A := A) (n := n) (c := c) (b := b) (q := q) LN hA OG) (by rintro _ _ ⟨A25, b25, c25, g25a, g25b, rfl, rfl⟩; rfl) ?_)
      rintro _ _ ⟨A25, b25, c25, g25a, g25b, rfl, rfl⟩
      exact At.into (hGi (hG5_85 A25 b25 c25 b7 g25a g25b)) rfl rfl
     ·
      refine At.bSQ (some 27) (Q_loadO (k := 2) rfl rfl Try.underlying3 rfl rfl (seg_get (i := 1) (p := 0) rfl LN rfl)) ?_
      refine At.bP  11 (some 29) (P_build_struct (cs := ([[iV next], (psk).map u8V].flatten).toArray) (parts := _) (vs := [(0, _), (1, _)]) rfl Try.underlying96 ze96 pl96 rfl (by show Instr.fill _ ([[iV 0], (List.replicate 32 0#8).map u8V].flatten).toArray _ = _; refine fill_seg (k := 0) (vs := [iV next]) rfl rfl LN rfl LN LN ?_; refine fill_seg (k := 1) (vs := (psk).map u8V) rfl rfl LN rfl LN LN ?_; exact fill_end (by simp))) (by kernel_rfl) (by kernel_rfl) ?_
      exact At.into (hGi (hG5_66 b7)) rfl rfl
    have hG5_105  : G 10 #[true, false, true, false, false, true, false, false, true, true, true, true, false, false, false, false, false] (frOf [(2, ptr b2 0), (4, ptr b4 0), (5, iV 0), (6, iV 0), (18, ptr b2 0), (20, ptr b2 32), (23, ptr b2 33), (29, .agg ([[iV next], (psk).map u8V].flatten).toArray)]) (hOf [(0, ⟨false, b, q, 0, encs EntE L, 0⟩), (2, ⟨true, b2, 0, 40, [(key).map u8V, [iV next, .slice A n c]].flatten, 0⟩), (4, ⟨true, b4, 0, 40, [(List.replicate 32 0#8).map u8V, [iV 0, .slice none 0 0]].flatten, 0⟩)]) := by
     clear hG5_0 hG5_1 hG5_2 hG5_3 hG5_4 hG5_5 hG5_6 hG5_7 hG5_8 hG5_9 hG5_10 hG5_11 hG5_12 hG5_13 hG5_14 hG5_15 hG5_16 hG5_17 hG5_18 hG5_19 hG5_20 hG5_21 hG5_22 hG5_23 hG5_24 hG5_25 hG5_26 hG5_27 hG5_28 hG5_29 hG5_30 hG5_31 hG5_32 hG5_33 hG5_34 hG5_35 hG5_36 hG5_37 hG5_38 hG5_39 hG5_40 hG5_41 hG5_42 hG5_43 hG5_44 hG5_45 hG5_46 hG5_47 hG5_48 hG5_49 hG5_50 hG5_51 hG5_52 hG5_53 hG5_54 hG5_55 hG5_56 hG5_57 hG5_58 hG5_59 hG5_60 hG5_61 hG5_62 hG5_64 hG5_65 hG5_66 hG5_67 hG5_68 hG5_69 hG5_70 hG5_71 hG5_72 hG5_73 hG5_74 hG5_75 hG5_76 hG5_78 hG5_79 hG5_80 hG5_81 hG5_82 hG5_83 hG5_84 hG5_85 hG5_89 hG5_90 hG5_91 hG5_92 hG5_93 hG5_94 hG5_95 hG5_96 hG5_97 hG5_98 hG5_99 hG5_100 hG5_101 hG5_102 hG5_103 hG5_104
     refine hGo ?_
     refine At.bStep [1, 3, 6, 12, 15] (by kernel_rfl) (by simp) ?_
     refine ⟨?_, ?_, ?_, ?_, ?_⟩
     ·
      refine At.bSQ (some 19) (Q_loadN (k := 2) (j := 0) (cs := (key).map u8V) rfl rfl Try.underlying23 rfl sz23 rfl rfl rfl (seg_at (i := 0) rfl LN LN) LN) ?_
      exact At.into (hGi (hG5_77 )) rfl rfl
     ·
      refine At.bSQ (some 21) (Q_loadO (k := 2) rfl rfl Try.underlying3 rfl rfl (seg_get (i := 1) (p := 0) rfl LN rfl)) ?_
      refine At.bP  4 (some 22) (P_add_i rfl rfl rfl (by omega)) (by kernel_rfl) (by kernel_rfl) ?_
      exact At.into (hGi (hG5_63 )) rfl rfl
     ·
      refine At.bSQ (some 24) (Q_loadO (k := 2) rfl rfl Try.underlying38 rfl rfl (seg_get (i := 1) (p := 1) rfl LN rfl)) ?_
      exact At.into (hGi (hG5_86 )) rfl rfl
     ·
      refine At.bS false (by kernel_rfl) (S_buildSliceE (some 30) 30 (cs := [[iV next], (psk).map u8V].flatten) rfl Try.underlying38 sz96 ze96 rfl rfl LN (by decide) (by decide) (fun b30 => ?_))
      refine At.row 30 (⟨true, b30, 0, 96, encs EntE [mkEnt next psk], 0⟩) rfl (ent_row LN) ?_
      exact At.into (hGi (hG5_87 b30)) rfl rfl
     ·
      refine At.bS false (by kernel_rfl) (S_alloc (some 7) 7 (zs := [(List.replicate 32 0#8).map u8V, [iV 0, .slice none 0 0]].flatten) rfl ze40 rfl (fun b7 => ?_))
      exact At.into (hGi (hG5_88 b7)) rfl rfl
    have hG5_106  : G 11 #[true, true, true, false, false, true, true, false, true, false, false, false, false, false, false, false, false] (frOf [(2, ptr b2 0), (3, ptr b3 0), (4, ptr b4 0), (5, iV 0), (6, iV 0), (19, aggK key), (20, ptr b2 32), (24, .slice A n c), (26, ptr b2 32)]) (hOf [(0, ⟨false, b, q, 0, encs EntE L, 0⟩), (2, ⟨true, b2, 0, 40, [(key).map u8V, [iV next, .slice A n c]].flatten, 0⟩), (3, ⟨true, b3, 0, 23, (psk).map u8V, 0⟩), (4, ⟨true, b4, 0, 40, [(List.replicate 32 0#8).map u8V, [iV 0, .slice none 0 0]].flatten, 0⟩)]) := by
     clear hG5_0 hG5_1 hG5_2 hG5_3 hG5_4 hG5_5 hG5_6 hG5_7 hG5_8 hG5_9 hG5_10 hG5_11 hG5_12 hG5_13 hG5_14 hG5_15 hG5_16 hG5_17 hG5_18 hG5_19 hG5_20 hG5_21 hG5_22 hG5_23 hG5_24 hG5_25 hG5_26 hG5_27 hG5_28 hG5_29 hG5_30 hG5_31 hG5_32 hG5_33 hG5_34 hG5_35 hG5_36 hG5_37 hG5_38 hG5_39 hG5_40 hG5_41 hG5_42 hG5_43 hG5_44 hG5_45 hG5_46 hG5_47 hG5_48 hG5_49 hG5_50 hG5_51 hG5_52 hG5_53 hG5_54 hG5_55 hG5_56 hG5_57 hG5_58 hG5_59 hG5_60 hG5_61 hG5_62 hG5_63 hG5_64 hG5_65 hG5_66 hG5_67 hG5_69 hG5_70 hG5_71 hG5_72 hG5_73 hG5_74 hG5_75 hG5_76 hG5_77 hG5_78 hG5_79 hG5_80 hG5_81 hG5_82 hG5_83 hG5_84 hG5_85 hG5_86 hG5_87 hG5_88 hG5_89 hG5_94 hG5_95 hG5_96 hG5_97 hG5_98 hG5_99 hG5_100 hG5_101 hG5_102 hG5_103 hG5_104 hG5_105
     refine hGo ?_
     refine At.bStep [3, 7, 9, 10, 15] (by kernel_rfl) (by simp) ?_
     refine ⟨?_, ?_, ?_, ?_, ?_⟩
     ·
      refine At.bSQ (some 21) (Q_loadO (k := 2) rfl rfl Try.underlying3 rfl rfl (seg_get (i := 1) (p := 0) rfl LN rfl)) ?_
      refine At.bP  4 (some 22) (P_add_i rfl rfl rfl (by omega)) (by kernel_rfl) (by kernel_rfl) ?_
      exact At.into (hGi (hG5_68 )) rfl rfl
     ·
      refine At.bS false (by kernel_rfl) (S_callV (some 25) [(0, _)] [25] (vs := [_]) rfl en58 rfl (VN (by simp) rfl View.all V0) (by simp) (c_CloneEn (L := L) (A := A) (n := n) (c := c) (b := b) (q := q) LN hA OG) (by rintro _ _ ⟨A25, b25, c25, g25a, g25b, rfl, rfl⟩; rfl) ?_)
      rintro _ _ ⟨A25, b25, c25, g25a, g25b, rfl, rfl⟩
      exact At.into (hGi (hG5_90 A25 b25 c25 g25a g25b)) rfl rfl
     ·
      refine At.bSQ (some 27) (Q_loadO (k := 2) rfl rfl Try.underlying3 rfl rfl (seg_get (i := 1) (p := 0) rfl LN rfl)) ?_
      exact At.into (hGi (hG5_91 )) rfl rfl
     ·
      refine At.bSQ (some 28) (Q_loadA (k := 3) rfl rfl Try.underlying23 rfl sz23 LN rfl) ?_
      exact At.into (hGi (hG5_92 )) rfl rfl
     ·
      refine At.bS false (by kernel_rfl) (S_alloc (some 7) 7 (zs := [(List.replicate 32 0#8).map u8V, [iV 0, .slice none 0 0]].flatten) rfl ze40 rfl (fun b7 => ?_))
      exact At.into (hGi (hG5_93 b7)) rfl rfl
    have hG5_107  : G 11 #[true, true, true, false, false, true, false, false, true, true, false, false, false, false, false, false, false] (frOf [(2, ptr b2 0), (3, ptr b3 0), (4, ptr b4 0), (5, iV 0), (6, iV 0), (19, aggK key), (20, ptr b2 32), (23, ptr b2 33), (27, iV next)]) (hOf [(0, ⟨false, b, q, 0, encs EntE L, 0⟩), (2, ⟨true, b2, 0, 40, [(key).map u8V, [iV next, .slice A n c]].flatten, 0⟩), (3, ⟨true, b3, 0, 23, (psk).map u8V, 0⟩), (4, ⟨true, b4, 0, 40, [(List.replicate 32 0#8).map u8V, [iV 0, .slice none 0 0]].flatten, 0⟩)]) := by
     clear hG5_0 hG5_1 hG5_2 hG5_3 hG5_4 hG5_5 hG5_6 hG5_7 hG5_8 hG5_9 hG5_10 hG5_11 hG5_12 hG5_13 hG5_14 hG5_15 hG5_16 hG5_17 hG5_18 hG5_19 hG5_20 hG5_21 hG5_22 hG5_23 hG5_24 hG5_25 hG5_26 hG5_27 hG5_28 hG5_29 hG5_30 hG5_31 hG5_32 hG5_33 hG5_34 hG5_35 hG5_36 hG5_37 hG5_38 hG5_39 hG5_40 hG5_41 hG5_42 hG5_43 hG5_44 hG5_45 hG5_46 hG5_47 hG5_48 hG5_49 hG5_50 hG5_51 hG5_52 hG5_53 hG5_54 hG5_55 hG5_56 hG5_57 hG5_58 hG5_59 hG5_60 hG5_61 hG5_62 hG5_63 hG5_64 hG5_65 hG5_66 hG5_67 hG5_68 hG5_70 hG5_71 hG5_72 hG5_73 hG5_74 hG5_75 hG5_76 hG5_78 hG5_79 hG5_80 hG5_81 hG5_82 hG5_83 hG5_84 hG5_85 hG5_86 hG5_87 hG5_88 hG5_89 hG5_90 hG5_92 hG5_93 hG5_95 hG5_96 hG5_97 hG5_98 hG5_99 hG5_100 hG5_101 hG5_102 hG5_103 hG5_104 hG5_105 hG5_106
     refine hGo ?_
     refine At.bStep [3, 6, 10, 15] (by kernel_rfl) (by simp) ?_
     refine ⟨?_, ?_, ?_, ?_⟩
     ·
      refine At.bSQ (some 21) (Q_loadO (k := 2) rfl rfl Try.underlying3 rfl rfl (seg_get (i := 1) (p := 0) rfl LN rfl)) ?_
      refine At.bP  4 (some 22) (P_add_i rfl rfl rfl (by omega)) (by kernel_rfl) (by kernel_rfl) ?_
      exact At.into (hGi (hG5_69 )) rfl rfl
     ·
      refine At.bSQ (some 24) (Q_loadO (k := 2) rfl rfl Try.underlying38 rfl rfl (seg_get (i := 1) (p := 1) rfl LN rfl)) ?_
      exact At.into (hGi (hG5_91 )) rfl rfl
     ·
      refine At.bSQ (some 28) (Q_loadA (k := 3) rfl rfl Try.underlying23 rfl sz23 LN rfl) ?_
      refine At.bP  11 (some 29) (P_build_struct (cs := ([[iV next], (psk).map u8V].flatten).toArray) (parts := _) (vs := [(0, _), (1, _)]) rfl Try.underlying96 ze96 pl96 rfl (by show Instr.fill _ ([[iV 0], (List.replicate 32 0#8).map u8V].flatten).toArray _ = _; refine fill_seg (k := 0) (vs := [iV next]) rfl rfl LN rfl LN LN ?_; refine fill_seg (k := 1) (vs := (psk).map u8V) rfl rfl LN rfl LN LN ?_; exact fill_end (by simp))) (by kernel_rfl) (by kernel_rfl) ?_
      exact At.into (hGi (hG5_77 )) rfl rfl
     ·
      refine At.bS false (by kernel_rfl) (S_alloc (some 7) 7 (zs := [(List.replicate 32 0#8).map u8V, [iV 0, .slice none 0 0]].flatten) rfl ze40 rfl (fun b7 => ?_))
      exact At.into (hGi (hG5_94 b7)) rfl rfl
    have hG5_108  : G 11 #[true, true, true, false, false, true, false, false, true, false, true, false, false, false, false, false, false] (frOf [(2, ptr b2 0), (4, ptr b4 0), (5, iV 0), (6, iV 0), (19, aggK key), (20, ptr b2 32), (23, ptr b2 33), (26, ptr b2 32), (28, aggK psk)]) (hOf [(0, ⟨false, b, q, 0, encs EntE L, 0⟩), (2, ⟨true, b2, 0, 40, [(key).map u8V, [iV next, .slice A n c]].flatten, 0⟩), (4, ⟨true, b4, 0, 40, [(List.replicate 32 0#8).map u8V, [iV 0, .slice none 0 0]].flatten, 0⟩)]) := by
     clear hG5_0 hG5_1 hG5_2 hG5_3 hG5_4 hG5_5 hG5_6 hG5_7 hG5_8 hG5_9 hG5_10 hG5_11 hG5_12 hG5_13 hG5_14 hG5_15 hG5_16 hG5_17 hG5_18 hG5_19 hG5_20 hG5_21 hG5_22 hG5_23 hG5_24 hG5_25 hG5_26 hG5_27 hG5_28 hG5_29 hG5_30 hG5_31 hG5_32 hG5_33 hG5_34 hG5_35 hG5_36 hG5_37 hG5_38 hG5_39 hG5_40 hG5_41 hG5_42 hG5_43 hG5_44 hG5_45 hG5_46 hG5_47 hG5_48 hG5_49 hG5_50 hG5_51 hG5_52 hG5_53 hG5_54 hG5_55 hG5_56 hG5_57 hG5_58 hG5_59 hG5_60 hG5_61 hG5_62 hG5_63 hG5_64 hG5_65 hG5_66 hG5_67 hG5_68 hG5_69 hG5_71 hG5_72 hG5_73 hG5_74 hG5_75 hG5_76 hG5_78 hG5_79 hG5_80 hG5_81 hG5_82 hG5_83 hG5_84 hG5_85 hG5_86 hG5_87 hG5_88 hG5_89 hG5_90 hG5_91 hG5_93 hG5_94 hG5_96 hG5_97 hG5_98 hG5_99 hG5_100 hG5_101 hG5_102 hG5_103 hG5_104 hG5_105 hG5_106 hG5_107
     refine hGo ?_
     refine At.bStep [3, 6, 9, 15] (by kernel_rfl) (by simp) ?_
     refine ⟨?_, ?_, ?_, ?_⟩
     ·
      refine At.bSQ (some 21) (Q_loadO (k := 2) rfl rfl Try.underlying3 rfl rfl (seg_get (i := 1) (p := 0) rfl LN rfl)) ?_
      refine At.bP  4 (some 22) (P_add_i rfl rfl rfl (by omega)) (by kernel_rfl) (by kernel_rfl) ?_
      exact At.into (hGi (hG5_70 )) rfl rfl
     ·
      refine At.bSQ (some 24) (Q_loadO (k := 2) rfl rfl Try.underlying38 rfl rfl (seg_get (i := 1) (p := 1) rfl LN rfl)) ?_
      exact At.into (hGi (hG5_92 )) rfl rfl
     ·
      refine At.bSQ (some 27) (Q_loadO (k := 2) rfl rfl Try.underlying3 rfl rfl (seg_get (i := 1) (p := 0) rfl LN rfl)) ?_
      refine At.bP  11 (some 29) (P_build_struct (cs := ([[iV next], (psk).map u8V].flatten).toArray) (parts := _) (vs := [(0, _), (1, _)]) rfl Try.underlying96 ze96 pl96 rfl (by show Instr.fill _ ([[iV 0], (List.replicate 32 0#8).map u8V].flatten).toArray _ = _; refine fill_seg (k := 0) (vs := [iV next]) rfl rfl LN rfl LN LN ?_; refine fill_seg (k := 1) (vs := (psk).map u8V) rfl rfl LN rfl LN LN ?_; exact fill_end (by simp))) (by kernel_rfl) (by kernel_rfl) ?_
      exact At.into (hGi (hG5_77 )) rfl rfl
     ·
      refine At.bS false (by kernel_rfl) (S_alloc (some 7) 7 (zs := [(List.replicate 32 0#8).map u8V, [iV 0, .slice none 0 0]].flatten) rfl ze40 rfl (fun b7 => ?_))
      exact At.into (hGi (hG5_95 b7)) rfl rfl
    have hG5_109 (b7 : Nat) : G 11 #[true, true, true, false, false, true, false, false, true, false, false, false, false, false, false, true, false] (frOf [(2, ptr b2 0), (3, ptr b3 0), (4, ptr b4 0), (5, iV 0), (6, iV 0), (7, ptr b7 0), (19, aggK key), (20, ptr b2 32), (23, ptr b2 33), (26, ptr b2 32)]) (hOf [(0, ⟨false, b, q, 0, encs EntE L, 0⟩), (2, ⟨true, b2, 0, 40, [(key).map u8V, [iV next, .slice A n c]].flatten, 0⟩), (3, ⟨true, b3, 0, 23, (psk).map u8V, 0⟩), (4, ⟨true, b4, 0, 40, [(List.replicate 32 0#8).map u8V, [iV 0, .slice none 0 0]].flatten, 0⟩), (7, ⟨true, b7, 0, 40, [(List.replicate 32 0#8).map u8V, [iV 0, .slice none 0 0]].flatten, 0⟩)]) := by
     clear hG5_0 hG5_1 hG5_2 hG5_3 hG5_4 hG5_5 hG5_6 hG5_7 hG5_8 hG5_9 hG5_10 hG5_11 hG5_12 hG5_13 hG5_14 hG5_15 hG5_16 hG5_17 hG5_18 hG5_19 hG5_20 hG5_21 hG5_22 hG5_23 hG5_24 hG5_25 hG5_26 hG5_27 hG5_28 hG5_29 hG5_30 hG5_31 hG5_32 hG5_33 hG5_34 hG5_35 hG5_36 hG5_37 hG5_38 hG5_39 hG5_40 hG5_41 hG5_42 hG5_43 hG5_44 hG5_45 hG5_46 hG5_47 hG5_48 hG5_49 hG5_50 hG5_51 hG5_52 hG5_53 hG5_54 hG5_55 hG5_56 hG5_57 hG5_58 hG5_59 hG5_60 hG5_61 hG5_62 hG5_63 hG5_64 hG5_65 hG5_66 hG5_67 hG5_68 hG5_69 hG5_70 hG5_72 hG5_73 hG5_74 hG5_75 hG5_76 hG5_77 hG5_78 hG5_79 hG5_80 hG5_81 hG5_82 hG5_83 hG5_84 hG5_85 hG5_86 hG5_87 hG5_88 hG5_89 hG5_90 hG5_91 hG5_92 hG5_96 hG5_97 hG5_98 hG5_99 hG5_100 hG5_101 hG5_102 hG5_103 hG5_104 hG5_105 hG5_106 hG5_107 hG5_108
     refine hGo ?_
     refine At.bStep [3, 6, 9, 10] (by kernel_rfl) (by simp) ?_
     refine ⟨?_, ?_, ?_, ?_⟩
     ·
      refine At.bSQ (some 21) (Q_loadO (k := 2) rfl rfl Try.underlying3 rfl rfl (seg_get (i := 1) (p := 0) rfl LN rfl)) ?_
      refine At.bP  4 (some 22) (P_add_i rfl rfl rfl (by omega)) (by kernel_rfl) (by kernel_rfl) ?_
      exact At.into (hGi (hG5_71 b7)) rfl rfl
     ·
      refine At.bSQ (some 24) (Q_loadO (k := 2) rfl rfl Try.underlying38 rfl rfl (seg_get (i := 1) (p := 1) rfl LN rfl)) ?_
      exact At.into (hGi (hG5_93 b7)) rfl rfl
     ·
      refine At.bSQ (some 27) (Q_loadO (k := 2) rfl rfl Try.underlying3 rfl rfl (seg_get (i := 1) (p := 0) rfl LN rfl)) ?_
      exact At.into (hGi (hG5_94 b7)) rfl rfl
     ·
      refine At.bSQ (some 28) (Q_loadA (k := 3) rfl rfl Try.underlying23 rfl sz23 LN rfl) ?_
      exact At.into (hGi (hG5_95 b7)) rfl rfl
    have hG5_110  : G 11 #[true, false, true, true, true, true, false, false, true, false, false, false, false, false, false, false, false] (frOf [(2, ptr b2 0), (3, ptr b3 0), (4, ptr b4 0), (5, iV 0), (6, iV 0), (18, ptr b2 0), (22, iV (next + 1)), (23, ptr b2 33), (26, ptr b2 32)]) (hOf [(0, ⟨false, b, q, 0, encs EntE L, 0⟩), (2, ⟨true, b2, 0, 40, [(key).map u8V, [iV next, .slice A n c]].flatten, 0⟩), (3, ⟨true, b3, 0, 23, (psk).map u8V, 0⟩), (4, ⟨true, b4, 0, 40, [(List.replicate 32 0#8).map u8V, [iV 0, .slice none 0 0]].flatten, 0⟩)]) := by
     clear hG5_0 hG5_1 hG5_2 hG5_3 hG5_4 hG5_5 hG5_6 hG5_7 hG5_8 hG5_9 hG5_10 hG5_11 hG5_12 hG5_13 hG5_14 hG5_15 hG5_16 hG5_17 hG5_18 hG5_19 hG5_20 hG5_21 hG5_22 hG5_23 hG5_24 hG5_25 hG5_26 hG5_27 hG5_28 hG5_29 hG5_30 hG5_31 hG5_32 hG5_33 hG5_34 hG5_35 hG5_36 hG5_37 hG5_38 hG5_39 hG5_40 hG5_41 hG5_42 hG5_43 hG5_44 hG5_45 hG5_46 hG5_47 hG5_48 hG5_49 hG5_50 hG5_51 hG5_52 hG5_53 hG5_54 hG5_55 hG5_56 hG5_57 hG5_58 hG5_59 hG5_60 hG5_61 hG5_62 hG5_63 hG5_64 hG5_65 hG5_66 hG5_67 hG5_68 hG5_69 hG5_70 hG5_71 hG5_72 hG5_73 hG5_74 hG5_75 hG5_76 hG5_77 hG5_78 hG5_79 hG5_80 hG5_81 hG5_82 hG5_83 hG5_84 hG5_85 hG5_86 hG5_87 hG5_88 hG5_90 hG5_91 hG5_92 hG5_93 hG5_94 hG5_95 hG5_100 hG5_101 hG5_102 hG5_103 hG5_104 hG5_105 hG5_106 hG5_107 hG5_108 hG5_109
     refine hGo ?_
     refine At.bStep [1, 6, 9, 10, 15] (by kernel_rfl) (by simp) ?_
     refine ⟨?_, ?_, ?_, ?_, ?_⟩
     ·
      refine At.bSQ (some 19) (Q_loadN (k := 2) (j := 0) (cs := (key).map u8V) rfl rfl Try.underlying23 rfl sz23 rfl rfl rfl (seg_at (i := 0) rfl LN LN) LN) ?_
      exact At.into (hGi (hG5_89 )) rfl rfl
     ·
      refine At.bSQ (some 24) (Q_loadO (k := 2) rfl rfl Try.underlying38 rfl rfl (seg_get (i := 1) (p := 1) rfl LN rfl)) ?_
      exact At.into (hGi (hG5_96 )) rfl rfl
     ·
      refine At.bSQ (some 27) (Q_loadO (k := 2) rfl rfl Try.underlying3 rfl rfl (seg_get (i := 1) (p := 0) rfl LN rfl)) ?_
      exact At.into (hGi (hG5_97 )) rfl rfl
     ·
      refine At.bSQ (some 28) (Q_loadA (k := 3) rfl rfl Try.underlying23 rfl sz23 LN rfl) ?_
      exact At.into (hGi (hG5_98 )) rfl rfl
     ·
      refine At.bS false (by kernel_rfl) (S_alloc (some 7) 7 (zs := [(List.replicate 32 0#8).map u8V, [iV 0, .slice none 0 0]].flatten) rfl ze40 rfl (fun b7 => ?_))
      exact At.into (hGi (hG5_99 b7)) rfl rfl
    have hG5_111 (A25 : Option Addr) (b25 c25 : Nat) (g25a : 0 < c25 → A25 = some ⟨b25, 0, none⟩) (g25b : L.length ≤ c25) : G 11 #[true, false, true, false, false, true, true, true, true, false, false, false, false, false, false, false, false] (frOf [(2, ptr b2 0), (3, ptr b3 0), (4, ptr b4 0), (5, iV 0), (6, iV 0), (18, ptr b2 0), (20, ptr b2 32), (25, .slice A25 L.length c25), (26, ptr b2 32)]) (hOf [(0, ⟨false, b, q, 0, encs EntE L, 0⟩), (2, ⟨true, b2, 0, 40, [(key).map u8V, [iV next, .slice A n c]].flatten, 0⟩), (3, ⟨true, b3, 0, 23, (psk).map u8V, 0⟩), (4, ⟨true, b4, 0, 40, [(List.replicate 32 0#8).map u8V, [iV 0, .slice none 0 0]].flatten, 0⟩), (25, ⟨true, b25, 0, 96, encs EntE L, (c25 - (L).length) * 33⟩)]) := by
     clear hG5_0 hG5_1 hG5_2 hG5_3 hG5_4 hG5_5 hG5_6 hG5_7 hG5_8 hG5_9 hG5_10 hG5_11 hG5_12 hG5_13 hG5_14 hG5_15 hG5_16 hG5_17 hG5_18 hG5_19 hG5_20 hG5_21 hG5_22 hG5_23 hG5_24 hG5_25 hG5_26 hG5_27 hG5_28 hG5_29 hG5_30 hG5_31 hG5_32 hG5_33 hG5_34 hG5_35 hG5_36 hG5_37 hG5_38 hG5_39 hG5_40 hG5_41 hG5_42 hG5_43 hG5_44 hG5_45 hG5_46 hG5_47 hG5_48 hG5_49 hG5_50 hG5_51 hG5_52 hG5_53 hG5_54 hG5_55 hG5_56 hG5_57 hG5_58 hG5_59 hG5_60 hG5_61 hG5_62 hG5_63 hG5_64 hG5_65 hG5_66 hG5_67 hG5_68 hG5_69 hG5_70 hG5_71 hG5_72 hG5_73 hG5_74 hG5_75 hG5_76 hG5_77 hG5_79 hG5_80 hG5_81 hG5_82 hG5_83 hG5_84 hG5_85 hG5_86 hG5_87 hG5_88 hG5_89 hG5_91 hG5_92 hG5_93 hG5_94 hG5_95 hG5_96 hG5_97 hG5_98 hG5_99 hG5_103 hG5_104 hG5_105 hG5_106 hG5_107 hG5_108 hG5_109 hG5_110
     refine hGo ?_
     refine At.bStep [1, 3, 9, 10, 15] (by kernel_rfl) (by simp) ?_
     refine ⟨?_, ?_, ?_, ?_, ?_⟩
     ·
      refine At.bSQ (some 19) (Q_loadN (k := 2) (j := 0) (cs := (key).map u8V) rfl rfl Try.underlying23 rfl sz23 rfl rfl rfl (seg_at (i := 0) rfl LN LN) LN) ?_
      exact At.into (hGi (hG5_90 A25 b25 c25 g25a g25b)) rfl rfl
     ·
      refine At.bSQ (some 21) (Q_loadO (k := 2) rfl rfl Try.underlying3 rfl rfl (seg_get (i := 1) (p := 0) rfl LN rfl)) ?_
      refine At.bP  4 (some 22) (P_add_i rfl rfl rfl (by omega)) (by kernel_rfl) (by kernel_rfl) ?_
      exact At.into (hGi (hG5_78 A25 b25 c25 g25a g25b)) rfl rfl
     ·
      refine At.bSQ (some 27) (Q_loadO (k := 2) rfl rfl Try.underlying3 rfl rfl (seg_get (i := 1) (p := 0) rfl LN rfl)) ?_
      exact At.into (hGi (hG5_100 A25 b25 c25 g25a g25b)) rfl rfl
     ·
      refine At.bSQ (some 28) (Q_loadA (k := 3) rfl rfl Try.underlying23 rfl sz23 LN rfl) ?_
      exact At.into (hGi (hG5_101 A25 b25 c25 g25a g25b)) rfl rfl
     ·
      refine At.bS false (by kernel_rfl) (S_alloc (some 7) 7 (zs := [(List.replicate 32 0#8).map u8V, [iV 0, .slice none 0 0]].flatten) rfl ze40 rfl (fun b7 => ?_))
      exact At.into (hGi (hG5_102 A25 b25 c25 b7 g25a g25b)) rfl rfl
    have hG5_112  : G 11 #[true, false, true, false, false, true, true, false, true, true, false, false, false, false, false, false, false] (frOf [(2, ptr b2 0), (3, ptr b3 0), (4, ptr b4 0), (5, iV 0), (6, iV 0), (18, ptr b2 0), (20, ptr b2 32), (24, .slice A n c), (27, iV next)]) (hOf [(0, ⟨false, b, q, 0, encs EntE L, 0⟩), (2, ⟨true, b2, 0, 40, [(key).map u8V, [iV next, .slice A n c]].flatten, 0⟩), (3, ⟨true, b3, 0, 23, (psk).map u8V, 0⟩), (4, ⟨true, b4, 0, 40, [(List.replicate 32 0#8).map u8V, [iV 0, .slice none 0 0]].flatten, 0⟩)]) := by
     clear hG5_0 hG5_1 hG5_2 hG5_3 hG5_4 hG5_5 hG5_6 hG5_7 hG5_8 hG5_9 hG5_10 hG5_11 hG5_12 hG5_13 hG5_14 hG5_15 hG5_16 hG5_17 hG5_18 hG5_19 hG5_20 hG5_21 hG5_22 hG5_23 hG5_24 hG5_25 hG5_26 hG5_27 hG5_28 hG5_29 hG5_30 hG5_31 hG5_32 hG5_33 hG5_34 hG5_35 hG5_36 hG5_37 hG5_38 hG5_39 hG5_40 hG5_41 hG5_42 hG5_43 hG5_44 hG5_45 hG5_46 hG5_47 hG5_48 hG5_49 hG5_50 hG5_51 hG5_52 hG5_53 hG5_54 hG5_55 hG5_56 hG5_57 hG5_58 hG5_59 hG5_60 hG5_61 hG5_62 hG5_63 hG5_64 hG5_65 hG5_66 hG5_67 hG5_68 hG5_69 hG5_70 hG5_71 hG5_72 hG5_73 hG5_74 hG5_75 hG5_76 hG5_77 hG5_78 hG5_80 hG5_81 hG5_82 hG5_83 hG5_84 hG5_85 hG5_87 hG5_88 hG5_89 hG5_90 hG5_92 hG5_93 hG5_94 hG5_95 hG5_96 hG5_97 hG5_98 hG5_99 hG5_101 hG5_102 hG5_104 hG5_105 hG5_106 hG5_107 hG5_108 hG5_109 hG5_110 hG5_111
     refine hGo ?_
     refine At.bStep [1, 3, 7, 10, 15] (by kernel_rfl) (by simp) ?_
     refine ⟨?_, ?_, ?_, ?_, ?_⟩
     ·
      refine At.bSQ (some 19) (Q_loadN (k := 2) (j := 0) (cs := (key).map u8V) rfl rfl Try.underlying23 rfl sz23 rfl rfl rfl (seg_at (i := 0) rfl LN LN) LN) ?_
      exact At.into (hGi (hG5_91 )) rfl rfl
     ·
      refine At.bSQ (some 21) (Q_loadO (k := 2) rfl rfl Try.underlying3 rfl rfl (seg_get (i := 1) (p := 0) rfl LN rfl)) ?_
      refine At.bP  4 (some 22) (P_add_i rfl rfl rfl (by omega)) (by kernel_rfl) (by kernel_rfl) ?_
      exact At.into (hGi (hG5_79 )) rfl rfl
     ·
      refine At.bS false (by kernel_rfl) (S_callV (some 25) [(0, _)] [25] (vs := [_]) rfl en58 rfl (VN (by simp) rfl View.all V0) (by simp) (c_CloneEn (L := L) (A := A) (n := n) (c := c) (b := b) (q := q) LN hA OG) (by rintro _ _ ⟨A25, b25, c25, g25a, g25b, rfl, rfl⟩; rfl) ?_)
      rintro _ _ ⟨A25, b25, c25, g25a, g25b, rfl, rfl⟩
      exact At.into (hGi (hG5_100 A25 b25 c25 g25a g25b)) rfl rfl
     ·
      refine At.bSQ (some 28) (Q_loadA (k := 3) rfl rfl Try.underlying23 rfl sz23 LN rfl) ?_
      refine At.bP  11 (some 29) (P_build_struct (cs := ([[iV next], (psk).map u8V].flatten).toArray) (parts := _) (vs := [(0, _), (1, _)]) rfl Try.underlying96 ze96 pl96 rfl (by show Instr.fill _ ([[iV 0], (List.replicate 32 0#8).map u8V].flatten).toArray _ = _; refine fill_seg (k := 0) (vs := [iV next]) rfl rfl LN rfl LN LN ?_; refine fill_seg (k := 1) (vs := (psk).map u8V) rfl rfl LN rfl LN LN ?_; exact fill_end (by simp))) (by kernel_rfl) (by kernel_rfl) ?_
      exact At.into (hGi (hG5_86 )) rfl rfl
     ·
      refine At.bS false (by kernel_rfl) (S_alloc (some 7) 7 (zs := [(List.replicate 32 0#8).map u8V, [iV 0, .slice none 0 0]].flatten) rfl ze40 rfl (fun b7 => ?_))
      exact At.into (hGi (hG5_103 b7)) rfl rfl
    have hG5_113  : G 11 #[true, false, true, false, false, true, true, false, true, false, true, false, false, false, false, false, false] (frOf [(2, ptr b2 0), (4, ptr b4 0), (5, iV 0), (6, iV 0), (18, ptr b2 0), (20, ptr b2 32), (24, .slice A n c), (26, ptr b2 32), (28, aggK psk)]) (hOf [(0, ⟨false, b, q, 0, encs EntE L, 0⟩), (2, ⟨true, b2, 0, 40, [(key).map u8V, [iV next, .slice A n c]].flatten, 0⟩), (4, ⟨true, b4, 0, 40, [(List.replicate 32 0#8).map u8V, [iV 0, .slice none 0 0]].flatten, 0⟩)]) := by
     clear hG5_0 hG5_1 hG5_2 hG5_3 hG5_4 hG5_5 hG5_6 hG5_7 hG5_8 hG5_9 hG5_10 hG5_11 hG5_12 hG5_13 hG5_14 hG5_15 hG5_16 hG5_17 hG5_18 hG5_19 hG5_20 hG5_21 hG5_22 hG5_23 hG5_24 hG5_25 hG5_26 hG5_27 hG5_28 hG5_29 hG5_30 hG5_31 hG5_32 hG5_33 hG5_34 hG5_35 hG5_36 hG5_37 hG5_38 hG5_39 hG5_40 hG5_41 hG5_42 hG5_43 hG5_44 hG5_45 hG5_46 hG5_47 hG5_48 hG5_49 hG5_50 hG5_51 hG5_52 hG5_53 hG5_54 hG5_55 hG5_56 hG5_57 hG5_58 hG5_59 hG5_60 hG5_61 hG5_62 hG5_63 hG5_64 hG5_65 hG5_66 hG5_67 hG5_68 hG5_69 hG5_70 hG5_71 hG5_72 hG5_73 hG5_74 hG5_75 hG5_76 hG5_77 hG5_78 hG5_79 hG5_81 hG5_82 hG5_83 hG5_84 hG5_85 hG5_87 hG5_88 hG5_89 hG5_90 hG5_91 hG5_93 hG5_94 hG5_95 hG5_96 hG5_97 hG5_98 hG5_99 hG5_100 hG5_102 hG5_103 hG5_105 hG5_106 hG5_107 hG5_108 hG5_109 hG5_110 hG5_111 hG5_112
     refine hGo ?_
     refine At.bStep [1, 3, 7, 9, 15] (by kernel_rfl) (by simp) ?_
     refine ⟨?_, ?_, ?_, ?_, ?_⟩
     ·
      refine At.bSQ (some 19) (Q_loadN (k := 2) (j := 0) (cs := (key).map u8V) rfl rfl Try.underlying23 rfl sz23 rfl rfl rfl (seg_at (i := 0) rfl LN LN) LN) ?_
      exact At.into (hGi (hG5_92 )) rfl rfl
     ·
      refine At.bSQ (some 21) (Q_loadO (k := 2) rfl rfl Try.underlying3 rfl rfl (seg_get (i := 1) (p := 0) rfl LN rfl)) ?_
      refine At.bP  4 (some 22) (P_add_i rfl rfl rfl (by omega)) (by kernel_rfl) (by kernel_rfl) ?_
      exact At.into (hGi (hG5_80 )) rfl rfl
     ·
      refine At.bS false (by kernel_rfl) (S_callV (some 25) [(0, _)] [25] (vs := [_]) rfl en58 rfl (VN (by simp) rfl View.all V0) (by simp) (c_CloneEn (L := L) (A := A) (n := n) (c := c) (b := b) (q := q) LN hA OG) (by rintro _ _ ⟨A25, b25, c25, g25a, g25b, rfl, rfl⟩; rfl) ?_)
      rintro _ _ ⟨A25, b25, c25, g25a, g25b, rfl, rfl⟩
      exact At.into (hGi (hG5_101 A25 b25 c25 g25a g25b)) rfl rfl
     ·
      refine At.bSQ (some 27) (Q_loadO (k := 2) rfl rfl Try.underlying3 rfl rfl (seg_get (i := 1) (p := 0) rfl LN rfl)) ?_
      refine At.bP  11 (some 29) (P_build_struct (cs := ([[iV next], (psk).map u8V].flatten).toArray) (parts := _) (vs := [(0, _), (1, _)]) rfl Try.underlying96 ze96 pl96 rfl (by show Instr.fill _ ([[iV 0], (List.replicate 32 0#8).map u8V].flatten).toArray _ = _; refine fill_seg (k := 0) (vs := [iV next]) rfl rfl LN rfl LN LN ?_; refine fill_seg (k := 1) (vs := (psk).map u8V) rfl rfl LN rfl LN LN ?_; exact fill_end (by simp))) (by kernel_rfl) (by kernel_rfl) ?_
      exact At.into (hGi (hG5_86 )) rfl rfl
     ·
      refine At.bS false (by kernel_rfl) (S_alloc (some 7) 7 (zs := [(List.replicate 32 0#8).map u8V, [iV 0, .slice none 0 0]].flatten) rfl ze40 rfl (fun b7 => ?_))
      exact At.into (hGi (hG5_104 b7)) rfl rfl
    have hG5_114 (b7 : Nat) : G 11 #[true, false, true, false, false, true, true, false, true, false, false, false, false, false, false, true, false] (frOf [(2, ptr b2 0), (3, ptr b3 0), (4, ptr b4 0), (5, iV 0), (6, iV 0), (7, ptr b7 0), (18, ptr b2 0), (20, ptr b2 32), (24, .slice A n c), (26, ptr b2 32)]) (hOf [(0, ⟨false, b, q, 0, encs EntE L, 0⟩), (2, ⟨true, b2, 0, 40, [(key).map u8V, [iV next, .slice A n c]].flatten, 0⟩), (3, ⟨true, b3, 0, 23, (psk).map u8V, 0⟩), (4, ⟨true, b4, 0, 40, [(List.replicate 32 0#8).map u8V, [iV 0, .slice none 0 0]].flatten, 0⟩), (7, ⟨true, b7, 0, 40, [(List.replicate 32 0#8).map u8V, [iV 0, .slice none 0 0]].flatten, 0⟩)]) := by
     clear hG5_0 hG5_1 hG5_2 hG5_3 hG5_4 hG5_5 hG5_6 hG5_7 hG5_8 hG5_9 hG5_10 hG5_11 hG5_12 hG5_13 hG5_14 hG5_15 hG5_16 hG5_17 hG5_18 hG5_19 hG5_20 hG5_21 hG5_22 hG5_23 hG5_24 hG5_25 hG5_26 hG5_27 hG5_28 hG5_29 hG5_30 hG5_31 hG5_32 hG5_33 hG5_34 hG5_35 hG5_36 hG5_37 hG5_38 hG5_39 hG5_40 hG5_41 hG5_42 hG5_43 hG5_44 hG5_45 hG5_46 hG5_47 hG5_48 hG5_49 hG5_50 hG5_51 hG5_52 hG5_53 hG5_54 hG5_55 hG5_56 hG5_57 hG5_58 hG5_59 hG5_60 hG5_61 hG5_62 hG5_63 hG5_64 hG5_65 hG5_66 hG5_67 hG5_68 hG5_69 hG5_70 hG5_71 hG5_72 hG5_73 hG5_74 hG5_75 hG5_76 hG5_77 hG5_78 hG5_79 hG5_80 hG5_82 hG5_83 hG5_84 hG5_85 hG5_86 hG5_87 hG5_88 hG5_89 hG5_90 hG5_91 hG5_92 hG5_94 hG5_95 hG5_96 hG5_97 hG5_98 hG5_99 hG5_100 hG5_101 hG5_105 hG5_106 hG5_107 hG5_108 hG5_109 hG5_110 hG5_111 hG5_112 hG5_113
     refine hGo ?_
     refine At.bStep [1, 3, 7, 9, 10] (by kernel_rfl) (by simp) ?_
     refine ⟨?_, ?_, ?_, ?_, ?_⟩
     ·
      refine At.bSQ (some 19) (Q_loadN (k := 2) (j := 0) (cs := (key).map u8V) rfl rfl Try.underlying23 rfl sz23 rfl rfl rfl (seg_at (i := 0) rfl LN LN) LN) ?_
      exact At.into (hGi (hG5_93 b7)) rfl rfl
     ·
      refine At.bSQ (some 21) (Q_loadO (k := 2) rfl rfl Try.underlying3 rfl rfl (seg_get (i := 1) (p := 0) rfl LN rfl)) ?_
      refine At.bP  4 (some 22) (P_add_i rfl rfl rfl (by omega)) (by kernel_rfl) (by kernel_rfl) ?_
      exact At.into (hGi (hG5_81 b7)) rfl rfl
     ·
      refine At.bS false (by kernel_rfl) (S_callV (some 25) [(0, _)] [25] (vs := [_]) rfl en58 rfl (VN (by simp) rfl View.all V0) (by simp) (c_CloneEn (L := L) (A := A) (n := n) (c := c) (b := b) (q := q) LN hA OG) (by rintro _ _ ⟨A25, b25, c25, g25a, g25b, rfl, rfl⟩; rfl) ?_)
      rintro _ _ ⟨A25, b25, c25, g25a, g25b, rfl, rfl⟩
      exact At.into (hGi (hG5_102 A25 b25 c25 b7 g25a g25b)) rfl rfl
     ·
      refine At.bSQ (some 27) (Q_loadO (k := 2) rfl rfl Try.underlying3 rfl rfl (seg_get (i := 1) (p := 0) rfl LN rfl)) ?_
      exact At.into (hGi (hG5_103 b7)) rfl rfl
     ·
      refine At.bSQ (some 28) (Q_loadA (k := 3) rfl rfl Try.underlying23 rfl sz23 LN rfl) ?_
      exact At.into (hGi (hG5_104 b7)) rfl rfl
    have hG5_115 (b7 : Nat) : G 11 #[true, false, true, false, false, true, false, false, true, true, false, false, false, false, false, true, false] (frOf [(2, ptr b2 0), (3, ptr b3 0), (4, ptr b4 0), (5, iV 0), (6, iV 0), (7, ptr b7 0), (18, ptr b2 0), (20, ptr b2 32), (23, ptr b2 33), (27, iV next)]) (hOf [(0, ⟨false, b, q, 0, encs EntE L, 0⟩), (2, ⟨true, b2, 0, 40, [(key).map u8V, [iV next, .slice A n c]].flatten, 0⟩), (3, ⟨true, b3, 0, 23, (psk).map u8V, 0⟩), (4, ⟨true, b4, 0, 40, [(List.replicate 32 0#8).map u8V, [iV 0, .slice none 0 0]].flatten, 0⟩), (7, ⟨true, b7, 0, 40, [(List.replicate 32 0#8).map u8V, [iV 0, .slice none 0 0]].flatten, 0⟩)]) := by
     clear hG5_0 hG5_1 hG5_2 hG5_3 hG5_4 hG5_5 hG5_6 hG5_7 hG5_8 hG5_9 hG5_10 hG5_11 hG5_12 hG5_13 hG5_14 hG5_15 hG5_16 hG5_17 hG5_18 hG5_19 hG5_20 hG5_21 hG5_22 hG5_23 hG5_24 hG5_25 hG5_26 hG5_27 hG5_28 hG5_29 hG5_30 hG5_31 hG5_32 hG5_33 hG5_34 hG5_35 hG5_36 hG5_37 hG5_38 hG5_39 hG5_40 hG5_41 hG5_42 hG5_43 hG5_44 hG5_45 hG5_46 hG5_47 hG5_48 hG5_49 hG5_50 hG5_51 hG5_52 hG5_53 hG5_54 hG5_55 hG5_56 hG5_57 hG5_58 hG5_59 hG5_60 hG5_61 hG5_62 hG5_63 hG5_64 hG5_65 hG5_66 hG5_67 hG5_68 hG5_69 hG5_70 hG5_71 hG5_72 hG5_73 hG5_74 hG5_75 hG5_76 hG5_77 hG5_78 hG5_79 hG5_80 hG5_81 hG5_83 hG5_84 hG5_85 hG5_86 hG5_87 hG5_89 hG5_90 hG5_91 hG5_92 hG5_93 hG5_95 hG5_96 hG5_97 hG5_98 hG5_99 hG5_100 hG5_101 hG5_102 hG5_104 hG5_105 hG5_106 hG5_107 hG5_108 hG5_109 hG5_110 hG5_111 hG5_112 hG5_113 hG5_114
     refine hGo ?_
     refine At.bStep [1, 3, 6, 10] (by kernel_rfl) (by simp) ?_
     refine ⟨?_, ?_, ?_, ?_⟩
     ·
      refine At.bSQ (some 19) (Q_loadN (k := 2) (j := 0) (cs := (key).map u8V) rfl rfl Try.underlying23 rfl sz23 rfl rfl rfl (seg_at (i := 0) rfl LN LN) LN) ?_
      exact At.into (hGi (hG5_94 b7)) rfl rfl
     ·
      refine At.bSQ (some 21) (Q_loadO (k := 2) rfl rfl Try.underlying3 rfl rfl (seg_get (i := 1) (p := 0) rfl LN rfl)) ?_
      refine At.bP  4 (some 22) (P_add_i rfl rfl rfl (by omega)) (by kernel_rfl) (by kernel_rfl) ?_
      exact At.into (hGi (hG5_82 b7)) rfl rfl
     ·
      refine At.bSQ (some 24) (Q_loadO (k := 2) rfl rfl Try.underlying38 rfl rfl (seg_get (i := 1) (p := 1) rfl LN rfl)) ?_
      exact At.into (hGi (hG5_103 b7)) rfl rfl
     ·
      refine At.bSQ (some 28) (Q_loadA (k := 3) rfl rfl Try.underlying23 rfl sz23 LN rfl) ?_
      refine At.bP  11 (some 29) (P_build_struct (cs := ([[iV next], (psk).map u8V].flatten).toArray) (parts := _) (vs := [(0, _), (1, _)]) rfl Try.underlying96 ze96 pl96 rfl (by show Instr.fill _ ([[iV 0], (List.replicate 32 0#8).map u8V].flatten).toArray _ = _; refine fill_seg (k := 0) (vs := [iV next]) rfl rfl LN rfl LN LN ?_; refine fill_seg (k := 1) (vs := (psk).map u8V) rfl rfl LN rfl LN LN ?_; exact fill_end (by simp))) (by kernel_rfl) (by kernel_rfl) ?_
      exact At.into (hGi (hG5_88 b7)) rfl rfl
    have hG5_116 (b7 : Nat) : G 11 #[true, false, true, false, false, true, false, false, true, false, true, false, false, false, false, true, false] (frOf [(2, ptr b2 0), (4, ptr b4 0), (5, iV 0), (6, iV 0), (7, ptr b7 0), (18, ptr b2 0), (20, ptr b2 32), (23, ptr b2 33), (26, ptr b2 32), (28, aggK psk)]) (hOf [(0, ⟨false, b, q, 0, encs EntE L, 0⟩), (2, ⟨true, b2, 0, 40, [(key).map u8V, [iV next, .slice A n c]].flatten, 0⟩), (4, ⟨true, b4, 0, 40, [(List.replicate 32 0#8).map u8V, [iV 0, .slice none 0 0]].flatten, 0⟩), (7, ⟨true, b7, 0, 40, [(List.replicate 32 0#8).map u8V, [iV 0, .slice none 0 0]].flatten, 0⟩)]) := by
     clear hG5_0 hG5_1 hG5_2 hG5_3 hG5_4 hG5_5 hG5_6 hG5_7 hG5_8 hG5_9 hG5_10 hG5_11 hG5_12 hG5_13 hG5_14 hG5_15 hG5_16 hG5_17 hG5_18 hG5_19 hG5_20 hG5_21 hG5_22 hG5_23 hG5_24 hG5_25 hG5_26 hG5_27 hG5_28 hG5_29 hG5_30 hG5_31 hG5_32 hG5_33 hG5_34 hG5_35 hG5_36 hG5_37 hG5_38 hG5_39 hG5_40 hG5_41 hG5_42 hG5_43 hG5_44 hG5_45 hG5_46 hG5_47 hG5_48 hG5_49 hG5_50 hG5_51 hG5_52 hG5_53 hG5_54 hG5_55 hG5_56 hG5_57 hG5_58 hG5_59 hG5_60 hG5_61 hG5_62 hG5_63 hG5_64 hG5_65 hG5_66 hG5_67 hG5_68 hG5_69 hG5_70 hG5_71 hG5_72 hG5_73 hG5_74 hG5_75 hG5_76 hG5_77 hG5_78 hG5_79 hG5_80 hG5_81 hG5_82 hG5_84 hG5_85 hG5_86 hG5_87 hG5_89 hG5_90 hG5_91 hG5_92 hG5_93 hG5_94 hG5_96 hG5_97 hG5_98 hG5_99 hG5_100 hG5_101 hG5_102 hG5_103 hG5_105 hG5_106 hG5_107 hG5_108 hG5_109 hG5_110 hG5_111 hG5_112 hG5_113 hG5_114 hG5_115
     refine hGo ?_
     refine At.bStep [1, 3, 6, 9] (by kernel_rfl) (by simp) ?_
     refine ⟨?_, ?_, ?_, ?_⟩
     ·
      refine At.bSQ (some 19) (Q_loadN (k := 2) (j := 0) (cs := (key).map u8V) rfl rfl Try.underlying23 rfl sz23 rfl rfl rfl (seg_at (i := 0) rfl LN LN) LN) ?_
      exact At.into (hGi (hG5_95 b7)) rfl rfl
     ·
      refine At.bSQ (some 21) (Q_loadO (k := 2) rfl rfl Try.underlying3 rfl rfl (seg_get (i := 1) (p := 0) rfl LN rfl)) ?_
      refine At.bP  4 (some 22) (P_add_i rfl rfl rfl (by omega)) (by kernel_rfl) (by kernel_rfl) ?_
      exact At.into (hGi (hG5_83 b7)) rfl rfl
     ·
      refine At.bSQ (some 24) (Q_loadO (k := 2) rfl rfl Try.underlying38 rfl rfl (seg_get (i := 1) (p := 1) rfl LN rfl)) ?_
      exact At.into (hGi (hG5_104 b7)) rfl rfl
     ·
      refine At.bSQ (some 27) (Q_loadO (k := 2) rfl rfl Try.underlying3 rfl rfl (seg_get (i := 1) (p := 0) rfl LN rfl)) ?_
      refine At.bP  11 (some 29) (P_build_struct (cs := ([[iV next], (psk).map u8V].flatten).toArray) (parts := _) (vs := [(0, _), (1, _)]) rfl Try.underlying96 ze96 pl96 rfl (by show Instr.fill _ ([[iV 0], (List.replicate 32 0#8).map u8V].flatten).toArray _ = _; refine fill_seg (k := 0) (vs := [iV next]) rfl rfl LN rfl LN LN ?_; refine fill_seg (k := 1) (vs := (psk).map u8V) rfl rfl LN rfl LN LN ?_; exact fill_end (by simp))) (by kernel_rfl) (by kernel_rfl) ?_
      exact At.into (hGi (hG5_88 b7)) rfl rfl
    have hG5_117  : G 12 #[true, true, true, false, false, true, false, false, true, false, false, false, false, false, false, false, false] (frOf [(2, ptr b2 0), (3, ptr b3 0), (4, ptr b4 0), (5, iV 0), (6, iV 0), (19, aggK key), (20, ptr b2 32), (23, ptr b2 33), (26, ptr b2 32)]) (hOf [(0, ⟨false, b, q, 0, encs EntE L, 0⟩), (2, ⟨true, b2, 0, 40, [(key).map u8V, [iV next, .slice A n c]].flatten, 0⟩), (3, ⟨true, b3, 0, 23, (psk).map u8V, 0⟩), (4, ⟨true, b4, 0, 40, [(List.replicate 32 0#8).map u8V, [iV 0, .slice none 0 0]].flatten, 0⟩)]) := by
     clear hG5_0 hG5_1 hG5_2 hG5_3 hG5_4 hG5_5 hG5_6 hG5_7 hG5_8 hG5_9 hG5_10 hG5_11 hG5_12 hG5_13 hG5_14 hG5_15 hG5_16 hG5_17 hG5_18 hG5_19 hG5_20 hG5_21 hG5_22 hG5_23 hG5_24 hG5_25 hG5_26 hG5_27 hG5_28 hG5_29 hG5_30 hG5_31 hG5_32 hG5_33 hG5_34 hG5_35 hG5_36 hG5_37 hG5_38 hG5_39 hG5_40 hG5_41 hG5_42 hG5_43 hG5_44 hG5_45 hG5_46 hG5_47 hG5_48 hG5_49 hG5_50 hG5_51 hG5_52 hG5_53 hG5_54 hG5_55 hG5_56 hG5_57 hG5_58 hG5_59 hG5_60 hG5_61 hG5_62 hG5_63 hG5_64 hG5_65 hG5_66 hG5_67 hG5_68 hG5_69 hG5_70 hG5_71 hG5_72 hG5_73 hG5_74 hG5_75 hG5_76 hG5_77 hG5_78 hG5_79 hG5_80 hG5_81 hG5_82 hG5_83 hG5_84 hG5_85 hG5_86 hG5_87 hG5_88 hG5_90 hG5_91 hG5_92 hG5_93 hG5_94 hG5_95 hG5_96 hG5_97 hG5_98 hG5_99 hG5_100 hG5_101 hG5_102 hG5_103 hG5_104 hG5_105 hG5_110 hG5_111 hG5_112 hG5_113 hG5_114 hG5_115 hG5_116
     refine hGo ?_
     refine At.bStep [3, 6, 9, 10, 15] (by kernel_rfl) (by simp) ?_
     refine ⟨?_, ?_, ?_, ?_, ?_⟩
     ·
      refine At.bSQ (some 21) (Q_loadO (k := 2) rfl rfl Try.underlying3 rfl rfl (seg_get (i := 1) (p := 0) rfl LN rfl)) ?_
      refine At.bP  4 (some 22) (P_add_i rfl rfl rfl (by omega)) (by kernel_rfl) (by kernel_rfl) ?_
      exact At.into (hGi (hG5_89 )) rfl rfl
     ·
      refine At.bSQ (some 24) (Q_loadO (k := 2) rfl rfl Try.underlying38 rfl rfl (seg_get (i := 1) (p := 1) rfl LN rfl)) ?_
      exact At.into (hGi (hG5_106 )) rfl rfl
     ·
      refine At.bSQ (some 27) (Q_loadO (k := 2) rfl rfl Try.underlying3 rfl rfl (seg_get (i := 1) (p := 0) rfl LN rfl)) ?_
      exact At.into (hGi (hG5_107 )) rfl rfl
     ·
      refine At.bSQ (some 28) (Q_loadA (k := 3) rfl rfl Try.underlying23 rfl sz23 LN rfl) ?_
      exact At.into (hGi (hG5_108 )) rfl rfl
     ·
      refine At.bS false (by kernel_rfl) (S_alloc (some 7) 7 (zs := [(List.replicate 32 0#8).map u8V, [iV 0, .slice none 0 0]].flatten) rfl ze40 rfl (fun b7 => ?_))
      exact At.into (hGi (hG5_109 b7)) rfl rfl
    have hG5_118  : G 12 #[true, false, true, false, false, true, true, false, true, false, false, false, false, false, false, false, false] (frOf [(2, ptr b2 0), (3, ptr b3 0), (4, ptr b4 0), (5, iV 0), (6, iV 0), (18, ptr b2 0), (20, ptr b2 32), (24, .slice A n c), (26, ptr b2 32)]) (hOf [(0, ⟨false, b, q, 0, encs EntE L, 0⟩), (2, ⟨true, b2, 0, 40, [(key).map u8V, [iV next, .slice A n c]].flatten, 0⟩), (3, ⟨true, b3, 0, 23, (psk).map u8V, 0⟩), (4, ⟨true, b4, 0, 40, [(List.replicate 32 0#8).map u8V, [iV 0, .slice none 0 0]].flatten, 0⟩)]) := by
     clear hG5_0 hG5_1 hG5_2 hG5_3 hG5_4 hG5_5 hG5_6 hG5_7 hG5_8 hG5_9 hG5_10 hG5_11 hG5_12 hG5_13 hG5_14 hG5_15 hG5_16 hG5_17 hG5_18 hG5_19 hG5_20 hG5_21 hG5_22 hG5_23 hG5_24 hG5_25 hG5_26 hG5_27 hG5_28 hG5_29 hG5_30 hG5_31 hG5_32 hG5_33 hG5_34 hG5_35 hG5_36 hG5_37 hG5_38 hG5_39 hG5_40 hG5_41 hG5_42 hG5_43 hG5_44 hG5_45 hG5_46 hG5_47 hG5_48 hG5_49 hG5_50 hG5_51 hG5_52 hG5_53 hG5_54 hG5_55 hG5_56 hG5_57 hG5_58 hG5_59 hG5_60 hG5_61 hG5_62 hG5_63 hG5_64 hG5_65 hG5_66 hG5_67 hG5_68 hG5_69 hG5_70 hG5_71 hG5_72 hG5_73 hG5_74 hG5_75 hG5_76 hG5_77 hG5_78 hG5_79 hG5_80 hG5_81 hG5_82 hG5_83 hG5_84 hG5_85 hG5_86 hG5_87 hG5_88 hG5_89 hG5_90 hG5_91 hG5_92 hG5_93 hG5_94 hG5_95 hG5_97 hG5_98 hG5_99 hG5_100 hG5_101 hG5_102 hG5_103 hG5_104 hG5_105 hG5_107 hG5_108 hG5_109 hG5_110 hG5_115 hG5_116 hG5_117
     refine hGo ?_
     refine At.bStep [1, 3, 7, 9, 10, 15] (by kernel_rfl) (by simp) ?_
     refine ⟨?_, ?_, ?_, ?_, ?_, ?_⟩
     ·
      refine At.bSQ (some 19) (Q_loadN (k := 2) (j := 0) (cs := (key).map u8V) rfl rfl Try.underlying23 rfl sz23 rfl rfl rfl (seg_at (i := 0) rfl LN LN) LN) ?_
      exact At.into (hGi (hG5_106 )) rfl rfl
     ·
      refine At.bSQ (some 21) (Q_loadO (k := 2) rfl rfl Try.underlying3 rfl rfl (seg_get (i := 1) (p := 0) rfl LN rfl)) ?_
      refine At.bP  4 (some 22) (P_add_i rfl rfl rfl (by omega)) (by kernel_rfl) (by kernel_rfl) ?_
      exact At.into (hGi (hG5_96 )) rfl rfl
     ·
      refine At.bS false (by kernel_rfl) (S_callV (some 25) [(0, _)] [25] (vs := [_]) rfl en58 rfl (VN (by simp) rfl View.all V0) (by simp) (c_CloneEn (L := L) (A := A) (n := n) (c := c) (b := b) (q := q) LN hA OG) (by rintro _ _ ⟨A25, b25, c25, g25a, g25b, rfl, rfl⟩; rfl) ?_)
      rintro _ _ ⟨A25, b25, c25, g25a, g25b, rfl, rfl⟩
      exact At.into (hGi (hG5_111 A25 b25 c25 g25a g25b)) rfl rfl
     ·
      refine At.bSQ (some 27) (Q_loadO (k := 2) rfl rfl Try.underlying3 rfl rfl (seg_get (i := 1) (p := 0) rfl LN rfl)) ?_
      exact At.into (hGi (hG5_112 )) rfl rfl
     ·
      refine At.bSQ (some 28) (Q_loadA (k := 3) rfl rfl Try.underlying23 rfl sz23 LN rfl) ?_
      exact At.into (hGi (hG5_113 )) rfl rfl
     ·
      refine At.bS false (by kernel_rfl) (S_alloc (some 7) 7 (zs := [(List.replicate 32 0#8).map u8V, [iV 0, .slice none 0 0]].flatten) rfl ze40 rfl (fun b7 => ?_))
      exact At.into (hGi (hG5_114 b7)) rfl rfl
    have hG5_119  : G 12 #[true, false, true, false, false, true, false, false, true, true, false, false, false, false, false, false, false] (frOf [(2, ptr b2 0), (3, ptr b3 0), (4, ptr b4 0), (5, iV 0), (6, iV 0), (18, ptr b2 0), (20, ptr b2 32), (23, ptr b2 33), (27, iV next)]) (hOf [(0, ⟨false, b, q, 0, encs EntE L, 0⟩), (2, ⟨true, b2, 0, 40, [(key).map u8V, [iV next, .slice A n c]].flatten, 0⟩), (3, ⟨true, b3, 0, 23, (psk).map u8V, 0⟩), (4, ⟨true, b4, 0, 40, [(List.replicate 32 0#8).map u8V, [iV 0, .slice none 0 0]].flatten, 0⟩)]) := by
     clear hG5_0 hG5_1 hG5_2 hG5_3 hG5_4 hG5_5 hG5_6 hG5_7 hG5_8 hG5_9 hG5_10 hG5_11 hG5_12 hG5_13 hG5_14 hG5_15 hG5_16 hG5_17 hG5_18 hG5_19 hG5_20 hG5_21 hG5_22 hG5_23 hG5_24 hG5_25 hG5_26 hG5_27 hG5_28 hG5_29 hG5_30 hG5_31 hG5_32 hG5_33 hG5_34 hG5_35 hG5_36 hG5_37 hG5_38 hG5_39 hG5_40 hG5_41 hG5_42 hG5_43 hG5_44 hG5_45 hG5_46 hG5_47 hG5_48 hG5_49 hG5_50 hG5_51 hG5_52 hG5_53 hG5_54 hG5_55 hG5_56 hG5_57 hG5_58 hG5_59 hG5_60 hG5_61 hG5_62 hG5_63 hG5_64 hG5_65 hG5_66 hG5_67 hG5_68 hG5_69 hG5_70 hG5_71 hG5_72 hG5_73 hG5_74 hG5_75 hG5_76 hG5_77 hG5_78 hG5_79 hG5_80 hG5_81 hG5_82 hG5_83 hG5_84 hG5_85 hG5_86 hG5_87 hG5_88 hG5_89 hG5_90 hG5_91 hG5_92 hG5_93 hG5_94 hG5_95 hG5_96 hG5_98 hG5_99 hG5_100 hG5_101 hG5_102 hG5_103 hG5_104 hG5_106 hG5_108 hG5_109 hG5_110 hG5_111 hG5_113 hG5_114 hG5_116 hG5_117 hG5_118
     refine hGo ?_
     refine At.bStep [1, 3, 6, 10, 15] (by kernel_rfl) (by simp) ?_
     refine ⟨?_, ?_, ?_, ?_, ?_⟩
     ·
      refine At.bSQ (some 19) (Q_loadN (k := 2) (j := 0) (cs := (key).map u8V) rfl rfl Try.underlying23 rfl sz23 rfl rfl rfl (seg_at (i := 0) rfl LN LN) LN) ?_
      exact At.into (hGi (hG5_107 )) rfl rfl
     ·
      refine At.bSQ (some 21) (Q_loadO (k := 2) rfl rfl Try.underlying3 rfl rfl (seg_get (i := 1) (p := 0) rfl LN rfl)) ?_
      refine At.bP  4 (some 22) (P_add_i rfl rfl rfl (by omega)) (by kernel_rfl) (by kernel_rfl) ?_
      exact At.into (hGi (hG5_97 )) rfl rfl
     ·
      refine At.bSQ (some 24) (Q_loadO (k := 2) rfl rfl Try.underlying38 rfl rfl (seg_get (i := 1) (p := 1) rfl LN rfl)) ?_
      exact At.into (hGi (hG5_112 )) rfl rfl
     ·
      refine At.bSQ (some 28) (Q_loadA (k := 3) rfl rfl Try.underlying23 rfl sz23 LN rfl) ?_
      refine At.bP  11 (some 29) (P_build_struct (cs := ([[iV next], (psk).map u8V].flatten).toArray) (parts := _) (vs := [(0, _), (1, _)]) rfl Try.underlying96 ze96 pl96 rfl (by show Instr.fill _ ([[iV 0], (List.replicate 32 0#8).map u8V].flatten).toArray _ = _; refine fill_seg (k := 0) (vs := [iV next]) rfl rfl LN rfl LN LN ?_; refine fill_seg (k := 1) (vs := (psk).map u8V) rfl rfl LN rfl LN LN ?_; exact fill_end (by simp))) (by kernel_rfl) (by kernel_rfl) ?_
      exact At.into (hGi (hG5_105 )) rfl rfl
     ·
      refine At.bS false (by kernel_rfl) (S_alloc (some 7) 7 (zs := [(List.replicate 32 0#8).map u8V, [iV 0, .slice none 0 0]].flatten) rfl ze40 rfl (fun b7 => ?_))
      exact At.into (hGi (hG5_115 b7)) rfl rfl
    have hG5_120  : G 12 #[true, false, true, false, false, true, false, false, true, false, true, false, false, false, false, false, false] (frOf [(2, ptr b2 0), (4, ptr b4 0), (5, iV 0), (6, iV 0), (18, ptr b2 0), (20, ptr b2 32), (23, ptr b2 33), (26, ptr b2 32), (28, aggK psk)]) (hOf [(0, ⟨false, b, q, 0, encs EntE L, 0⟩), (2, ⟨true, b2, 0, 40, [(key).map u8V, [iV next, .slice A n c]].flatten, 0⟩), (4, ⟨true, b4, 0, 40, [(List.replicate 32 0#8).map u8V, [iV 0, .slice none 0 0]].flatten, 0⟩)]) := by
     clear hG5_0 hG5_1 hG5_2 hG5_3 hG5_4 hG5_5 hG5_6 hG5_7 hG5_8 hG5_9 hG5_10 hG5_11 hG5_12 hG5_13 hG5_14 hG5_15 hG5_16 hG5_17 hG5_18 hG5_19 hG5_20 hG5_21 hG5_22 hG5_23 hG5_24 hG5_25 hG5_26 hG5_27 hG5_28 hG5_29 hG5_30 hG5_31 hG5_32 hG5_33 hG5_34 hG5_35 hG5_36 hG5_37 hG5_38 hG5_39 hG5_40 hG5_41 hG5_42 hG5_43 hG5_44 hG5_45 hG5_46 hG5_47 hG5_48 hG5_49 hG5_50 hG5_51 hG5_52 hG5_53 hG5_54 hG5_55 hG5_56 hG5_57 hG5_58 hG5_59 hG5_60 hG5_61 hG5_62 hG5_63 hG5_64 hG5_65 hG5_66 hG5_67 hG5_68 hG5_69 hG5_70 hG5_71 hG5_72 hG5_73 hG5_74 hG5_75 hG5_76 hG5_77 hG5_78 hG5_79 hG5_80 hG5_81 hG5_82 hG5_83 hG5_84 hG5_85 hG5_86 hG5_87 hG5_88 hG5_89 hG5_90 hG5_91 hG5_92 hG5_93 hG5_94 hG5_95 hG5_96 hG5_97 hG5_99 hG5_100 hG5_101 hG5_102 hG5_103 hG5_104 hG5_106 hG5_107 hG5_109 hG5_110 hG5_111 hG5_112 hG5_114 hG5_115 hG5_117 hG5_118 hG5_119
     refine hGo ?_
     refine At.bStep [1, 3, 6, 9, 15] (by kernel_rfl) (by simp) ?_
     refine ⟨?_, ?_, ?_, ?_, ?_⟩
     ·
      refine At.bSQ (some 19) (Q_loadN (k := 2) (j := 0) (cs := (key).map u8V) rfl rfl Try.underlying23 rfl sz23 rfl rfl rfl (seg_at (i := 0) rfl LN LN) LN) ?_
      exact At.into (hGi (hG5_108 )) rfl rfl
     ·
      refine At.bSQ (some 21) (Q_loadO (k := 2) rfl rfl Try.underlying3 rfl rfl (seg_get (i := 1) (p := 0) rfl LN rfl)) ?_
      refine At.bP  4 (some 22) (P_add_i rfl rfl rfl (by omega)) (by kernel_rfl) (by kernel_rfl) ?_
      exact At.into (hGi (hG5_98 )) rfl rfl
     ·
      refine At.bSQ (some 24) (Q_loadO (k := 2) rfl rfl Try.underlying38 rfl rfl (seg_get (i := 1) (p := 1) rfl LN rfl)) ?_
      exact At.into (hGi (hG5_113 )) rfl rfl
     ·
      refine At.bSQ (some 27) (Q_loadO (k := 2) rfl rfl Try.underlying3 rfl rfl (seg_get (i := 1) (p := 0) rfl LN rfl)) ?_
      refine At.bP  11 (some 29) (P_build_struct (cs := ([[iV next], (psk).map u8V].flatten).toArray) (parts := _) (vs := [(0, _), (1, _)]) rfl Try.underlying96 ze96 pl96 rfl (by show Instr.fill _ ([[iV 0], (List.replicate 32 0#8).map u8V].flatten).toArray _ = _; refine fill_seg (k := 0) (vs := [iV next]) rfl rfl LN rfl LN LN ?_; refine fill_seg (k := 1) (vs := (psk).map u8V) rfl rfl LN rfl LN LN ?_; exact fill_end (by simp))) (by kernel_rfl) (by kernel_rfl) ?_
      exact At.into (hGi (hG5_105 )) rfl rfl
     ·
      refine At.bS false (by kernel_rfl) (S_alloc (some 7) 7 (zs := [(List.replicate 32 0#8).map u8V, [iV 0, .slice none 0 0]].flatten) rfl ze40 rfl (fun b7 => ?_))
      exact At.into (hGi (hG5_116 b7)) rfl rfl
    have hG5_121 (b7 : Nat) : G 12 #[true, false, true, false, false, true, false, false, true, false, false, false, false, false, false, true, false] (frOf [(2, ptr b2 0), (3, ptr b3 0), (4, ptr b4 0), (5, iV 0), (6, iV 0), (7, ptr b7 0), (18, ptr b2 0), (20, ptr b2 32), (23, ptr b2 33), (26, ptr b2 32)]) (hOf [(0, ⟨false, b, q, 0, encs EntE L, 0⟩), (2, ⟨true, b2, 0, 40, [(key).map u8V, [iV next, .slice A n c]].flatten, 0⟩), (3, ⟨true, b3, 0, 23, (psk).map u8V, 0⟩), (4, ⟨true, b4, 0, 40, [(List.replicate 32 0#8).map u8V, [iV 0, .slice none 0 0]].flatten, 0⟩), (7, ⟨true, b7, 0, 40, [(List.replicate 32 0#8).map u8V, [iV 0, .slice none 0 0]].flatten, 0⟩)]) := by
     clear hG5_0 hG5_1 hG5_2 hG5_3 hG5_4 hG5_5 hG5_6 hG5_7 hG5_8 hG5_9 hG5_10 hG5_11 hG5_12 hG5_13 hG5_14 hG5_15 hG5_16 hG5_17 hG5_18 hG5_19 hG5_20 hG5_21 hG5_22 hG5_23 hG5_24 hG5_25 hG5_26 hG5_27 hG5_28 hG5_29 hG5_30 hG5_31 hG5_32 hG5_33 hG5_34 hG5_35 hG5_36 hG5_37 hG5_38 hG5_39 hG5_40 hG5_41 hG5_42 hG5_43 hG5_44 hG5_45 hG5_46 hG5_47 hG5_48 hG5_49 hG5_50 hG5_51 hG5_52 hG5_53 hG5_54 hG5_55 hG5_56 hG5_57 hG5_58 hG5_59 hG5_60 hG5_61 hG5_62 hG5_63 hG5_64 hG5_65 hG5_66 hG5_67 hG5_68 hG5_69 hG5_70 hG5_71 hG5_72 hG5_73 hG5_74 hG5_75 hG5_76 hG5_77 hG5_78 hG5_79 hG5_80 hG5_81 hG5_82 hG5_83 hG5_84 hG5_85 hG5_86 hG5_87 hG5_88 hG5_89 hG5_90 hG5_91 hG5_92 hG5_93 hG5_94 hG5_95 hG5_96 hG5_97 hG5_98 hG5_100 hG5_101 hG5_102 hG5_103 hG5_104 hG5_105 hG5_106 hG5_107 hG5_108 hG5_110 hG5_111 hG5_112 hG5_113 hG5_117 hG5_118 hG5_119 hG5_120
     refine hGo ?_
     refine At.bStep [1, 3, 6, 9, 10] (by kernel_rfl) (by simp) ?_
     refine ⟨?_, ?_, ?_, ?_, ?_⟩
     ·
      refine At.bSQ (some 19) (Q_loadN (k := 2) (j := 0) (cs := (key).map u8V) rfl rfl Try.underlying23 rfl sz23 rfl rfl rfl (seg_at (i := 0) rfl LN LN) LN) ?_
      exact At.into (hGi (hG5_109 b7)) rfl rfl
     ·
      refine At.bSQ (some 21) (Q_loadO (k := 2) rfl rfl Try.underlying3 rfl rfl (seg_get (i := 1) (p := 0) rfl LN rfl)) ?_
      refine At.bP  4 (some 22) (P_add_i rfl rfl rfl (by omega)) (by kernel_rfl) (by kernel_rfl) ?_
      exact At.into (hGi (hG5_99 b7)) rfl rfl
     ·
      refine At.bSQ (some 24) (Q_loadO (k := 2) rfl rfl Try.underlying38 rfl rfl (seg_get (i := 1) (p := 1) rfl LN rfl)) ?_
      exact At.into (hGi (hG5_114 b7)) rfl rfl
     ·
      refine At.bSQ (some 27) (Q_loadO (k := 2) rfl rfl Try.underlying3 rfl rfl (seg_get (i := 1) (p := 0) rfl LN rfl)) ?_
      exact At.into (hGi (hG5_115 b7)) rfl rfl
     ·
      refine At.bSQ (some 28) (Q_loadA (k := 3) rfl rfl Try.underlying23 rfl sz23 LN rfl) ?_
      exact At.into (hGi (hG5_116 b7)) rfl rfl
    have hG5_122  : G 13 #[true, false, true, false, false, true, false, false, true, false, false, false, false, false, false, false, false] (frOf [(2, ptr b2 0), (3, ptr b3 0), (4, ptr b4 0), (5, iV 0), (6, iV 0), (18, ptr b2 0), (20, ptr b2 32), (23, ptr b2 33), (26, ptr b2 32)]) (hOf [(0, ⟨false, b, q, 0, encs EntE L, 0⟩), (2, ⟨true, b2, 0, 40, [(key).map u8V, [iV next, .slice A n c]].flatten, 0⟩), (3, ⟨true, b3, 0, 23, (psk).map u8V, 0⟩), (4, ⟨true, b4, 0, 40, [(List.replicate 32 0#8).map u8V, [iV 0, .slice none 0 0]].flatten, 0⟩)]) := by
     clear hG5_0 hG5_1 hG5_2 hG5_3 hG5_4 hG5_5 hG5_6 hG5_7 hG5_8 hG5_9 hG5_10 hG5_11 hG5_12 hG5_13 hG5_14 hG5_15 hG5_16 hG5_17 hG5_18 hG5_19 hG5_20 hG5_21 hG5_22 hG5_23 hG5_24 hG5_25 hG5_26 hG5_27 hG5_28 hG5_29 hG5_30 hG5_31 hG5_32 hG5_33 hG5_34 hG5_35 hG5_36 hG5_37 hG5_38 hG5_39 hG5_40 hG5_41 hG5_42 hG5_43 hG5_44 hG5_45 hG5_46 hG5_47 hG5_48 hG5_49 hG5_50 hG5_51 hG5_52 hG5_53 hG5_54 hG5_55 hG5_56 hG5_57 hG5_58 hG5_59 hG5_60 hG5_61 hG5_62 hG5_63 hG5_64 hG5_65 hG5_66 hG5_67 hG5_68 hG5_69 hG5_70 hG5_71 hG5_72 hG5_73 hG5_74 hG5_75 hG5_76 hG5_77 hG5_78 hG5_79 hG5_80 hG5_81 hG5_82 hG5_83 hG5_84 hG5_85 hG5_86 hG5_87 hG5_88 hG5_89 hG5_90 hG5_91 hG5_92 hG5_93 hG5_94 hG5_95 hG5_96 hG5_97 hG5_98 hG5_99 hG5_100 hG5_101 hG5_102 hG5_103 hG5_104 hG5_105 hG5_106 hG5_107 hG5_108 hG5_109 hG5_111 hG5_112 hG5_113 hG5_114 hG5_115 hG5_116
     refine hGo ?_
     refine At.bStep [1, 3, 6, 9, 10, 15] (by kernel_rfl) (by simp) ?_
     refine ⟨?_, ?_, ?_, ?_, ?_, ?_⟩
     ·
      refine At.bSQ (some 19) (Q_loadN (k := 2) (j := 0) (cs := (key).map u8V) rfl rfl Try.underlying23 rfl sz23 rfl rfl rfl (seg_at (i := 0) rfl LN LN) LN) ?_
      exact At.into (hGi (hG5_117 )) rfl rfl
     ·
      refine At.bSQ (some 21) (Q_loadO (k := 2) rfl rfl Try.underlying3 rfl rfl (seg_get (i := 1) (p := 0) rfl LN rfl)) ?_
      refine At.bP  4 (some 22) (P_add_i rfl rfl rfl (by omega)) (by kernel_rfl) (by kernel_rfl) ?_
      exact At.into (hGi (hG5_110 )) rfl rfl
     ·
      refine At.bSQ (some 24) (Q_loadO (k := 2) rfl rfl Try.underlying38 rfl rfl (seg_get (i := 1) (p := 1) rfl LN rfl)) ?_
      exact At.into (hGi (hG5_118 )) rfl rfl
     ·
      refine At.bSQ (some 27) (Q_loadO (k := 2) rfl rfl Try.underlying3 rfl rfl (seg_get (i := 1) (p := 0) rfl LN rfl)) ?_
      exact At.into (hGi (hG5_119 )) rfl rfl
     ·
      refine At.bSQ (some 28) (Q_loadA (k := 3) rfl rfl Try.underlying23 rfl sz23 LN rfl) ?_
      exact At.into (hGi (hG5_120 )) rfl rfl
     ·
      refine At.bS false (by kernel_rfl) (S_alloc (some 7) 7 (zs := [(List.replicate 32 0#8).map u8V, [iV 0, .slice none 0 0]].flatten) rfl ze40 rfl (fun b7 => ?_))
      exact At.into (hGi (hG5_121 b7)) rfl rfl
    clear hG5_0 hG5_1 hG5_2 hG5_3 hG5_4 hG5_5 hG5_6 hG5_7 hG5_8 hG5_9 hG5_10 hG5_11 hG5_12 hG5_13 hG5_14 hG5_15 hG5_16 hG5_17 hG5_18 hG5_19 hG5_20 hG5_21 hG5_22 hG5_23 hG5_24 hG5_25 hG5_26 hG5_27 hG5_28 hG5_29 hG5_30 hG5_31 hG5_32 hG5_33 hG5_34 hG5_35 hG5_36 hG5_37 hG5_38 hG5_39 hG5_40 hG5_41 hG5_42 hG5_43 hG5_44 hG5_45 hG5_46 hG5_47 hG5_48 hG5_49 hG5_50 hG5_51 hG5_52 hG5_53 hG5_54 hG5_55 hG5_56 hG5_57 hG5_58 hG5_59 hG5_60 hG5_61 hG5_62 hG5_63 hG5_64 hG5_65 hG5_66 hG5_67 hG5_68 hG5_69 hG5_70 hG5_71 hG5_72 hG5_73 hG5_74 hG5_75 hG5_76 hG5_77 hG5_78 hG5_79 hG5_80 hG5_81 hG5_82 hG5_83 hG5_84 hG5_85 hG5_86 hG5_87 hG5_88 hG5_89 hG5_90 hG5_91 hG5_92 hG5_93 hG5_94 hG5_95 hG5_96 hG5_97 hG5_98 hG5_99 hG5_100 hG5_101 hG5_102 hG5_103 hG5_104 hG5_105 hG5_106 hG5_107 hG5_108 hG5_109 hG5_110 hG5_111 hG5_112 hG5_113 hG5_114 hG5_115 hG5_116 hG5_117 hG5_118 hG5_119 hG5_120 hG5_121
    refine hGo ?_
    refine At.bP  0 (some 18) (P_fieldAddr0 (off := 0) rfl Try.underlying40 rfl sz23 rfl rfl) (by kernel_rfl) (by kernel_rfl) ?_
    refine At.bP  2 (some 20) (P_fieldAddr0 (off := 32) rfl Try.underlying40 rfl sz3 rfl rfl) (by kernel_rfl) (by kernel_rfl) ?_
    refine At.bP  5 (some 23) (P_fieldAddr0 (off := 33) rfl Try.underlying40 rfl sz38 rfl rfl) (by kernel_rfl) (by kernel_rfl) ?_
    refine At.bP  8 (some 26) (P_fieldAddr0 (off := 32) rfl Try.underlying40 rfl sz3 rfl rfl) (by kernel_rfl) (by kernel_rfl) ?_
    exact At.into (hGi (hG5_122 )) rfl rfl
   ·
    rintro fr H ⟨A25, b25, c25, b30, A31, b31, c31, b7, rfl, rfl, g25a, g25b, g31a, g31b, -⟩
    refine At.next ?_
    refine At.seq ?_
    refine At.seq ?_
    refine At.region ?_
    refine At.p (some 33) (P_fieldAddr0 (off := 33) rfl Try.underlying40 rfl sz38 rfl rfl) ?_
    refine At.q (some 34) (Q_loadO (k := 7) rfl rfl Try.underlying38 rfl rfl (seg_get (i := 1) (p := 1) rfl LN rfl)) ?_
    refine At.p (some 35) (P_len_sl rfl rfl ⟨_, Try.underlying38⟩ rfl) ?_
    refine At.p (some 36) (P_cmp rfl rfl rfl rfl rfl rfl) ?_
    refine At.nil ?_
    refine At.next ?_
    refine At.cond rfl (fun h36 => ?_) (fun h36 => ?_)
    · -- cond 36 t
     have e36 : ((L ++ [mkEnt next psk]).length : Int) > 8 := of_decide_eq_true h36
     refine At.region ?_
     refine At.p (some 37) (P_fieldAddr0 (off := 33) rfl Try.underlying40 rfl sz38 rfl rfl) ?_
     refine At.q (some 38) (Q_loadO (k := 7) rfl rfl Try.underlying38 rfl rfl (seg_get (i := 1) (p := 1) rfl LN rfl)) ?_
     refine At.s (S_callR (some 39) [(25, _)] [] [25] (vs := [_, _, _]) rfl en59 rfl (ON rfl rfl O0) (by simp) V0 (by simp) (c_DelE (L := (L ++ [mkEnt next psk])) (A := A31) (c := c31) (b := b31) (i := 0) g31a OG OG) (by rintro _ _ ⟨rfl, rfl⟩; rfl) ?_)
     rintro _ _ ⟨rfl, rfl⟩
     have hle39 : ((L ++ [mkEnt next psk]).eraseIdx 0).length = (L ++ [mkEnt next psk]).length - 1 := by rw [List.length_eraseIdx, if_pos (by first | omega | (simp; omega))]
     refine At.p (some 40) (P_fieldAddr0 (off := 33) rfl Try.underlying40 rfl sz38 rfl rfl) ?_
     refine At.s (S_store none (k := 7) rfl rfl rfl sz38 rfl rfl rfl LN ?_)
     refine At.row 7 (⟨true, b7, 0, 40, [(key).map u8V, [iV (next + 1), .slice (some ⟨b31, 0, none⟩) (((L ++ [mkEnt next psk]).eraseIdx 0).length) c31]].flatten, 0⟩) rfl (seg_set1 (x := [iV (next + 1), .slice A31 ((L ++ [mkEnt next psk]).length) c31]) (i := 1) (p := 1) rfl LN OG) ?_
     refine At.nil ?_
     refine At.next ?_
     refine At.seq ?_
     refine At.bBruteG [3] (fun fr H => fr = frOf [(4, ptr b4 0), (5, iV next), (6, iV 0)] ∧ H = hOf [(4, ⟨true, b4, 0, 40, [(key).map u8V, [iV (next + 1), .slice (some ⟨b31, 0, none⟩) (((L ++ [mkEnt next psk]).eraseIdx 0).length) c31]].flatten, 0⟩), (25, ⟨true, b31, 0, 96, encs EntE ((L ++ [mkEnt next psk]).eraseIdx 0), (c31 - ((L ++ [mkEnt next psk]).eraseIdx 0).length) * 33⟩)] ∧ True) (by kernel_rfl) ?_ ?_
     ·
      intro Kb hKb G hGi hGo
      have hG8_0  : G 0 #[true, true, true, true, true, true] (frOf [(4, ptr b4 0), (5, iV next), (6, iV 0)]) (hOf [(4, ⟨true, b4, 0, 40, [(key).map u8V, [iV (next + 1), .slice (some ⟨b31, 0, none⟩) (((L ++ [mkEnt next psk]).eraseIdx 0).length) c31]].flatten, 0⟩), (25, ⟨true, b31, 0, 96, encs EntE ((L ++ [mkEnt next psk]).eraseIdx 0), (c31 - ((L ++ [mkEnt next psk]).eraseIdx 0).length) * 33⟩)]) := by
       refine hGo ?_
       refine At.bEnd (by kernel_rfl) ?_
       refine At.next ?_
       exact hKb _ _ ⟨rfl, rfl, trivial⟩
      have hG8_1  : G 3 #[true, true, true, false, false, false] (frOf [(4, ptr b4 0), (5, iV 0), (6, iV 0), (41, .agg ([(key).map u8V, [iV (next + 1), .slice (some ⟨b31, 0, none⟩) (((L ++ [mkEnt next psk]).eraseIdx 0).length) c31]].flatten).toArray), (43, iV next)]) (hOf [(4, ⟨true, b4, 0, 40, [(List.replicate 32 0#8).map u8V, [iV 0, .slice none 0 0]].flatten, 0⟩), (25, ⟨true, b31, 0, 96, encs EntE ((L ++ [mkEnt next psk]).eraseIdx 0), (c31 - ((L ++ [mkEnt next psk]).eraseIdx 0).length) * 33⟩)]) := by
       refine hGo ?_
       refine At.bStep [3] (by kernel_rfl) (by simp) ?_
       refine At.bS true (by kernel_rfl) (S_storeA none (k := 4) (vs := [(key).map u8V, [iV (next + 1), .slice (some ⟨b31, 0, none⟩) (((L ++ [mkEnt next psk]).eraseIdx 0).length) c31]].flatten) rfl rfl rfl (by rw [sz40]; exact congrArg some LN) rfl (one_flatc (one_map (fun _ => rfl)) (one_flatc (one_cons rfl (one_cons rfl one_nil)) one_flat0)) NG rfl LN ?_)
       refine At.bP  4 (some 5) (P_assign rfl rfl) (by kernel_rfl) (by kernel_rfl) ?_
       refine At.bP  5 (some 6) (P_assign rfl rfl) (by kernel_rfl) (by kernel_rfl) ?_
       exact At.into (hGi (hG8_0 )) rfl rfl
      have hG8_2  : G 4 #[true, true, false, false, false, false] (frOf [(4, ptr b4 0), (5, iV 0), (6, iV 0), (41, .agg ([(key).map u8V, [iV (next + 1), .slice (some ⟨b31, 0, none⟩) (((L ++ [mkEnt next psk]).eraseIdx 0).length) c31]].flatten).toArray), (42, ptr b2 32)]) (hOf [(0, ⟨false, b, q, 0, encs EntE L, 0⟩), (2, ⟨true, b2, 0, 40, [(key).map u8V, [iV next, .slice A n c]].flatten, 0⟩), (4, ⟨true, b4, 0, 40, [(List.replicate 32 0#8).map u8V, [iV 0, .slice none 0 0]].flatten, 0⟩), (25, ⟨true, b31, 0, 96, encs EntE ((L ++ [mkEnt next psk]).eraseIdx 0), (c31 - ((L ++ [mkEnt next psk]).eraseIdx 0).length) * 33⟩)]) := by
       refine hGo ?_
       refine At.bStep [2, 3] (by kernel_rfl) (by simp) ?_
       refine ⟨?_, ?_⟩
       ·
        refine At.bSQ (some 43) (Q_loadO (k := 2) rfl rfl Try.underlying3 rfl rfl (seg_get (i := 1) (p := 0) rfl LN rfl)) ?_
        exact At.into (hGi (hG8_1 )) rfl rfl
       ·
        refine At.bS true (by kernel_rfl) (S_storeA none (k := 4) (vs := [(key).map u8V, [iV (next + 1), .slice (some ⟨b31, 0, none⟩) (((L ++ [mkEnt next psk]).eraseIdx 0).length) c31]].flatten) rfl rfl rfl (by rw [sz40]; exact congrArg some LN) rfl (one_flatc (one_map (fun _ => rfl)) (one_flatc (one_cons rfl (one_cons rfl one_nil)) one_flat0)) NG rfl LN ?_)
        refine At.bQ  2 (some 43) (Q_loadO (k := 2) rfl rfl Try.underlying3 rfl rfl (seg_get (i := 1) (p := 0) rfl LN rfl)) (by kernel_rfl) (by kernel_rfl) ?_
        refine At.bP  4 (some 5) (P_assign rfl rfl) (by kernel_rfl) (by kernel_rfl) ?_
        refine At.bP  5 (some 6) (P_assign rfl rfl) (by kernel_rfl) (by kernel_rfl) ?_
        exact At.into (hGi (hG8_0 )) rfl rfl
      clear hG8_0 hG8_1
      refine hGo ?_
      refine At.bQ  0 (some 41) (Q_loadA (k := 7) rfl rfl Try.underlying40 rfl sz40 LN rfl) (by kernel_rfl) (by kernel_rfl) ?_
      refine At.bP  1 (some 42) (P_fieldAddr0 (off := 32) rfl Try.underlying40 rfl sz3 rfl rfl) (by kernel_rfl) (by kernel_rfl) ?_
      exact At.into (hGi (hG8_2 )) rfl rfl
     ·
      rintro fr H ⟨rfl, rfl, -⟩
      refine At.next ?_
      refine At.ret ?_
      obtain ⟨z5, z1, z2, z3, z4⟩ := mi_t key psk e8 e13
      have z6 : mintL L next psk = (L ++ [mkEnt next psk]).eraseIdx 0 := by rw [mintL, if_pos (by simp at e36; omega)]
      refine At.giveV (.inl rfl) [25] (rows' := [_]) (ResV.three rfl (ResOne.cellA (k := 4) rfl Try.underlying40 rfl sz40 LN rfl) (ResOne.tmp rfl) (ResOne.tmp rfl)) rfl (by simp) (by simp) ?_
      exact ⟨(some ⟨b31, 0, none⟩), b31, c31, (fun _ => rfl), (by simp only [z1, z2, z3, z4, z5, z6]; first | omega | exact Nat.le_refl _ | (simp; done) | (simp <;> omega)), (by first | (rw [z1, z2, z3, z4, z5, z6]; try rfl; done) | (rw [← z1, ← z2, ← z3, ← z4, ← z5, ← z6]; try rfl; done) | (simp only [z1, z2, z3, z4, z5, z6]; try rfl; done) | (simp only [← z1, ← z2, ← z3, ← z4, ← z5, ← z6]; try rfl; done) | rfl), (by first | (rw [z1, z2, z3, z4, z5, z6]; try rfl; done) | (rw [← z1, ← z2, ← z3, ← z4, ← z5, ← z6]; try rfl; done) | (simp only [z1, z2, z3, z4, z5, z6]; try rfl; done) | (simp only [← z1, ← z2, ← z3, ← z4, ← z5, ← z6]; try rfl; done) | rfl)⟩
    · -- cond 36 f
     have e36 : ¬ ((L ++ [mkEnt next psk]).length : Int) > 8 := of_decide_eq_false h36
     refine At.skip ?_
     refine At.next ?_
     refine At.seq ?_
     refine At.bBruteG [3] (fun fr H => fr = frOf [(4, ptr b4 0), (5, iV next), (6, iV 0)] ∧ H = hOf [(4, ⟨true, b4, 0, 40, [(key).map u8V, [iV (next + 1), .slice A31 ((L ++ [mkEnt next psk]).length) c31]].flatten, 0⟩), (25, ⟨true, b31, 0, 96, encs EntE (L ++ [mkEnt next psk]), (c31 - ((L ++ [mkEnt next psk])).length) * 33⟩)] ∧ True) (by kernel_rfl) ?_ ?_
     ·
      intro Kb hKb G hGi hGo
      have hG8_0  : G 0 #[true, true, true, true, true, true] (frOf [(4, ptr b4 0), (5, iV next), (6, iV 0)]) (hOf [(4, ⟨true, b4, 0, 40, [(key).map u8V, [iV (next + 1), .slice A31 ((L ++ [mkEnt next psk]).length) c31]].flatten, 0⟩), (25, ⟨true, b31, 0, 96, encs EntE (L ++ [mkEnt next psk]), (c31 - ((L ++ [mkEnt next psk])).length) * 33⟩)]) := by
       refine hGo ?_
       refine At.bEnd (by kernel_rfl) ?_
       refine At.next ?_
       exact hKb _ _ ⟨rfl, rfl, trivial⟩
      have hG8_1  : G 3 #[true, true, true, false, false, false] (frOf [(4, ptr b4 0), (5, iV 0), (6, iV 0), (41, .agg ([(key).map u8V, [iV (next + 1), .slice A31 ((L ++ [mkEnt next psk]).length) c31]].flatten).toArray), (43, iV next)]) (hOf [(4, ⟨true, b4, 0, 40, [(List.replicate 32 0#8).map u8V, [iV 0, .slice none 0 0]].flatten, 0⟩), (25, ⟨true, b31, 0, 96, encs EntE (L ++ [mkEnt next psk]), (c31 - ((L ++ [mkEnt next psk])).length) * 33⟩)]) := by
       refine hGo ?_
       refine At.bStep [3] (by kernel_rfl) (by simp) ?_
       refine At.bS true (by kernel_rfl) (S_storeA none (k := 4) (vs := [(key).map u8V, [iV (next + 1), .slice A31 ((L ++ [mkEnt next psk]).length) c31]].flatten) rfl rfl rfl (by rw [sz40]; exact congrArg some LN) rfl (one_flatc (one_map (fun _ => rfl)) (one_flatc (one_cons rfl (one_cons rfl one_nil)) one_flat0)) NG rfl LN ?_)
       refine At.bP  4 (some 5) (P_assign rfl rfl) (by kernel_rfl) (by kernel_rfl) ?_
       refine At.bP  5 (some 6) (P_assign rfl rfl) (by kernel_rfl) (by kernel_rfl) ?_
       exact At.into (hGi (hG8_0 )) rfl rfl
      have hG8_2  : G 4 #[true, true, false, false, false, false] (frOf [(4, ptr b4 0), (5, iV 0), (6, iV 0), (41, .agg ([(key).map u8V, [iV (next + 1), .slice A31 ((L ++ [mkEnt next psk]).length) c31]].flatten).toArray), (42, ptr b2 32)]) (hOf [(0, ⟨false, b, q, 0, encs EntE L, 0⟩), (2, ⟨true, b2, 0, 40, [(key).map u8V, [iV next, .slice A n c]].flatten, 0⟩), (4, ⟨true, b4, 0, 40, [(List.replicate 32 0#8).map u8V, [iV 0, .slice none 0 0]].flatten, 0⟩), (25, ⟨true, b31, 0, 96, encs EntE (L ++ [mkEnt next psk]), (c31 - ((L ++ [mkEnt next psk])).length) * 33⟩)]) := by
       refine hGo ?_
       refine At.bStep [2, 3] (by kernel_rfl) (by simp) ?_
       refine ⟨?_, ?_⟩
       ·
        refine At.bSQ (some 43) (Q_loadO (k := 2) rfl rfl Try.underlying3 rfl rfl (seg_get (i := 1) (p := 0) rfl LN rfl)) ?_
        exact At.into (hGi (hG8_1 )) rfl rfl
       ·
        refine At.bS true (by kernel_rfl) (S_storeA none (k := 4) (vs := [(key).map u8V, [iV (next + 1), .slice A31 ((L ++ [mkEnt next psk]).length) c31]].flatten) rfl rfl rfl (by rw [sz40]; exact congrArg some LN) rfl (one_flatc (one_map (fun _ => rfl)) (one_flatc (one_cons rfl (one_cons rfl one_nil)) one_flat0)) NG rfl LN ?_)
        refine At.bQ  2 (some 43) (Q_loadO (k := 2) rfl rfl Try.underlying3 rfl rfl (seg_get (i := 1) (p := 0) rfl LN rfl)) (by kernel_rfl) (by kernel_rfl) ?_
        refine At.bP  4 (some 5) (P_assign rfl rfl) (by kernel_rfl) (by kernel_rfl) ?_
        refine At.bP  5 (some 6) (P_assign rfl rfl) (by kernel_rfl) (by kernel_rfl) ?_
        exact At.into (hGi (hG8_0 )) rfl rfl
      clear hG8_0 hG8_1
      refine hGo ?_
      refine At.bQ  0 (some 41) (Q_loadA (k := 7) rfl rfl Try.underlying40 rfl sz40 LN rfl) (by kernel_rfl) (by kernel_rfl) ?_
      refine At.bP  1 (some 42) (P_fieldAddr0 (off := 32) rfl Try.underlying40 rfl sz3 rfl rfl) (by kernel_rfl) (by kernel_rfl) ?_
      exact At.into (hGi (hG8_2 )) rfl rfl
     ·
      rintro fr H ⟨rfl, rfl, -⟩
      refine At.next ?_
      refine At.ret ?_
      obtain ⟨z5, z1, z2, z3, z4⟩ := mi_t key psk e8 e13
      have z6 : mintL L next psk = L ++ [mkEnt next psk] := by rw [mintL, if_neg (by simp at e36; omega)]
      refine At.giveV (.inl rfl) [25] (rows' := [_]) (ResV.three rfl (ResOne.cellA (k := 4) rfl Try.underlying40 rfl sz40 LN rfl) (ResOne.tmp rfl) (ResOne.tmp rfl)) rfl (by simp) (by simp) ?_
      exact ⟨A31, b31, c31, g31a, (by simp only [z1, z2, z3, z4, z5, z6]; first | omega | exact Nat.le_refl _ | (simp; done) | (simp <;> omega)), (by first | (rw [z1, z2, z3, z4, z5, z6]; try rfl; done) | (rw [← z1, ← z2, ← z3, ← z4, ← z5, ← z6]; try rfl; done) | (simp only [z1, z2, z3, z4, z5, z6]; try rfl; done) | (simp only [← z1, ← z2, ← z3, ← z4, ← z5, ← z6]; try rfl; done) | rfl), (by first | (rw [z1, z2, z3, z4, z5, z6]; try rfl; done) | (rw [← z1, ← z2, ← z3, ← z4, ← z5, ← z6]; try rfl; done) | (simp only [z1, z2, z3, z4, z5, z6]; try rfl; done) | (simp only [← z1, ← z2, ← z3, ← z4, ← z5, ← z6]; try rfl; done) | rfl)⟩


end Go.Proofs.Ytihciioopdalnaa

