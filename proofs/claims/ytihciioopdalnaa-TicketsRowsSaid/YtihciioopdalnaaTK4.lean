import Derived.Test.YtihciioopdalnaaTK2
namespace Go.Proofs.Ytihciioopdalnaa
set_option maxRecDepth 20000
set_option linter.unusedVariables false
set_option linter.unusedSimpArgs false
open Go.SE Go.RowKit
attribute [local irreducible] macS sumS
theorem beN_be4 {m : Nat} (h : m < 4294967296) : beN (beI 4 (m : Int)) 0 = m := by
 rw [be4_lit]
 have e : ∀ k : Nat, (BitVec.ofInt 8 ((m : Int) / 2 ^ k)).toNat = m / 2 ^ k % 256 := fun k => by
  rw [BitVec.toNat_ofInt]
  have h2 : ((m : Int) / 2 ^ k) = ((m / 2 ^ k : Nat) : Int) := by simp
  rw [h2]
  omega
 have e0 : (BitVec.ofInt 8 (m : Int)).toNat = m % 256 := by rw [BitVec.toNat_ofInt]; omega
 simp only [beN, e, e0]
 omega
theorem nu_tk {key : List (BitVec 8)} {m : Nat} (h : m ≤ 2147483647) : nuI (tkT key (m : Int)) = m := by
 have hm : 0 ≤ (m : Int) ∧ (m : Int) ≤ 2147483647 := by omega
 rw [nuI_t (tk_len hm), tk_t hm, List.take_left' (beI_len 4 _), beN_be4 (by omega)]
theorem nuOk_tk {key : List (BitVec 8)} {nx : Int} {m : Nat} (h : m ≤ 2147483647) (h2 : (m : Int) < nx) : nuOk key nx (tkT key (m : Int)) = true := by
 have hm : 0 ≤ (m : Int) ∧ (m : Int) ≤ 2147483647 := by omega
 rw [nuOk, nu_tk h, decide_eq_true (tk_len hm), decide_eq_true h2]
 simp
structure Kn where
 tk : BE
 psk : List (BitVec 8)
 hp : psk.length = 32
instance : Inhabited Kn := ⟨⟨default, List.replicate 32 0#8, List.length_replicate⟩⟩
def KnE : Enc Kn where
 f e := [[e.tk.v], e.psk.map u8V].flatten
 sz := 33
 pos := by decide
 len e := by simp [e.hp]
 one e u hu := by
  simp only [List.flatten_cons, List.flatten_nil, List.append_nil, List.mem_append, List.mem_singleton, List.mem_map] at hu
  rcases hu with rfl | ⟨z, _, rfl⟩ <;> rfl
def mkKn (tk : BE) (psk : List (BitVec 8)) : Kn := if h : psk.length = 32 then ⟨tk, psk, h⟩ else ⟨tk, List.replicate 32 0#8, List.length_replicate⟩
theorem kn_row {tk : BE} {psk : List (BitVec 8)} (h : psk.length = 32) : [[tk.v], psk.map u8V].flatten = encs KnE [mkKn tk psk] := by
 rw [encs_one, mkKn, dif_pos h]
 rfl
def knN (nx : Int) (L : List Ent) : Nat := if rightT nx L then L.length else 0
theorem kn_t {nx : Int} {L : List Ent} (h : rightT nx L = true) : knN nx L = L.length := if_pos h
theorem kn_f {nx : Int} {L : List Ent} (h : rightT nx L = false) : knN nx L = 0 := by simp [knN, h]
theorem right0 : rightT 0 [] = true := rfl
theorem right1 {p : List (BitVec 8)} : rightT 1 [mkEnt 0 p] = true := by
 rw [rightT, risB, risB, mkEnt_id]
 rfl
theorem mints_known (k p : List (BitVec 8)) (hk : k.length = 32) :
  miE 0 [] = 0 ∧ miI 0 [] = 0 ∧ (tkT (miK k 0 []) (miI 0 [])).length = 16 ∧ usE (miK k 0 []) (miN 0 []) (miL 0 [] p) (tkT (miK k 0 []) (miI 0 [])) = 0 ∧ usI (miK k 0 []) (miN 0 []) (miL 0 [] p) (tkT (miK k 0 []) (miI 0 [])) = 0 ∧ knN (miN 0 []) (miL 0 [] p) = 1 ∧
   usE (usK (miK k 0 []) (miN 0 []) (miL 0 [] p) (tkT (miK k 0 []) (miI 0 []))) (usN (miK k 0 []) (miN 0 []) (miL 0 [] p) (tkT (miK k 0 []) (miI 0 []))) (usL (miK k 0 []) (miN 0 []) (miL 0 [] p) (tkT (miK k 0 []) (miI 0 []))) (tkT (miK k 0 []) (miI 0 [])) = 11 := by
 obtain ⟨z5, z1, z2, z3, z4⟩ := mi_t (nx := 0) (L := []) k p right0 (by decide)
 have z6 : mintL [] 0 p = [mkEnt 0 p] := rfl
 rw [z1, z2, z3, z4, z5, z6]
 have h0 : idxS ((nuI (tkT k ((0 : Nat) : Int)) : Nat) : Int) [mkEnt 0 p] = 0 := by
  rw [nu_tk (by decide), idxS, mkEnt_id]; simp
 have e1 : usE k (0 + 1) [mkEnt 0 p] (tkT k ((0 : Nat) : Int)) = 0 := usE_0 right1 (nuOk_tk (by decide) (by decide)) (by rw [h0]; exact Nat.zero_lt_one)
 obtain ⟨y1, y2, y3, y4⟩ := us_t e1
 have e1' : usE k (0 + 1) [mkEnt 0 p] (tkT k 0) = 0 := e1
 have y1' : usK k (0 + 1) [mkEnt 0 p] (tkT k 0) = k := y1
 have y2' : usN k (0 + 1) [mkEnt 0 p] (tkT k 0) = 0 + 1 := y2
 have y3' : usL k (0 + 1) [mkEnt 0 p] (tkT k 0) = [] := by
  have : usL k (0 + 1) [mkEnt 0 p] (tkT k 0) = [mkEnt 0 p].eraseIdx (idxS ((nuI (tkT k ((0 : Nat) : Int)) : Nat) : Int) [mkEnt 0 p]) := y3
  rw [this, h0]; rfl
 have y4' : usI k (0 + 1) [mkEnt 0 p] (tkT k 0) = 0 := by
  have : usI k (0 + 1) [mkEnt 0 p] (tkT k 0) = ((nuI (tkT k ((0 : Nat) : Int)) : Nat) : Int) := y4
  rw [this, nu_tk (by decide)]; rfl
 refine ⟨rfl, rfl, tk_len (by decide), e1', y4', ?_, ?_⟩
 · rw [kn_t (show rightT (0 + 1) [mkEnt 0 p] = true from right1)]; rfl
 ·
  rw [y1', y2', y3']
  have hr : rightT (0 + 1) ([] : List Ent) = true := rfl
  exact usE_11 hr (nuOk_tk (m := 0) (by decide) (by decide)) (by rw [idxS]; decide)

attribute [local irreducible] tkT rightT risB lastId
attribute [local irreducible] nuI nuOk idxS idxI mintL miE miK miN miL miI
set_option maxHeartbeats 2000000 in
theorem c_Use {key : List (BitVec 8)} {next : Int} {L : List Ent} {A : Option Addr} {n c b q : Nat} {tk : List (BitVec 8)} {Atk : Option Addr} {ntk ctk btk qtk : Nat} (hkey : key.length = 32) (hL : L.length = n) (hA : 0 < n → A = some ⟨b, q, none⟩) (hc : n ≤ c) (hntk : tk.length = ntk) (hAtk : 0 < ntk → Atk = some ⟨btk, qtk, none⟩) (hctk : ntk ≤ ctk) :
  Con Try.prog 29 [.agg ([(key).map u8V, [iV next, .slice A n c]].flatten).toArray, .slice Atk ntk ctk] [⟨false, b, q, 0, encs EntE L, 0⟩, pRow btk qtk tk] (fun v rs => ∃ (A' : Option Addr) (b' c' : Nat), (0 < c' → A' = some ⟨b', 0, none⟩) ∧ (usL key next L tk).length ≤ c' ∧ v = .tuple #[.agg ([(usK key next L tk).map u8V, [iV (usN key next L tk), .slice A' (usL key next L tk).length c']].flatten).toArray, iV (usI key next L tk), iV (usE key next L tk)] ∧ rs = [⟨true, b', 0, 96, encs EntE (usL key next L tk), (c' - (usL key next L tk).length) * 33⟩]) := by
 refine Con.enter Try.func29 Try.ntmps29 (Nat.le_of_ble_eq_true rfl) rfl fun w => ?_
 refine At.seq ?_
 refine At.region ?_
 refine At.s (S_box (some 2) 2 (zs := [(key).map u8V, [iV next, .slice A n c]].flatten) rfl rfl rfl (fun b2 => ?_))
 refine At.s (S_alloc (some 4) 4 (zs := [(List.replicate 32 0#8).map u8V, [iV 0, .slice none 0 0]].flatten) rfl ze40 rfl (fun b4 => ?_))
 refine At.p (some 5) (P_assign rfl rfl) ?_
 refine At.p (some 6) (P_assign rfl rfl) ?_
 refine At.nil ?_
 refine At.next ?_
 refine At.seq ?_
 refine At.seq ?_
 refine At.region ?_
 refine At.q (some 10) (Q_loadA (k := 2) rfl rfl Try.underlying40 rfl sz40 LN rfl) ?_
 refine At.s (S_callV (some 11) [(0, _)] [] (vs := [_]) rfl en32 rfl (VN (by simp) rfl View.all V0) (by simp) (c_TRight (key := key) (next := next) (L := L) (A := A) (n := n) (c := c) (b := b) (q := q) LN LN hA OG) (by rintro _ _ ⟨rfl, rfl⟩; rfl) ?_)
 rintro _ _ ⟨rfl, rfl⟩
 refine At.p (some 12) (P_not rfl rfl) ?_
 refine At.nil ?_
 refine At.next ?_
 refine At.cond rfl (fun h12 => ?_) (fun h12 => ?_)
 · -- cond 12 t
  have e12 : rightT next L = false := (by first | (simp; done) | simpa using h12)
  refine At.seq ?_
  refine At.region ?_
  refine At.p (some 13) (P_build_struct (cs := ([(List.replicate 32 0#8).map u8V, [iV 0, .slice none 0 0]].flatten).toArray) (parts := _) (vs := []) rfl Try.underlying40 ze40 pl40 rfl (by show Instr.fill _ ([(List.replicate 32 0#8).map u8V, [iV 0], [.slice none 0 0]].flatten).toArray _ = _; exact fill_end (by simp))) ?_
  refine At.s (S_storeA none (k := 4) (vs := [(List.replicate 32 0#8).map u8V, [iV 0, .slice none 0 0]].flatten) rfl rfl rfl (by rw [sz40]; exact congrArg some LN) rfl (one_flatc (one_map (fun _ => rfl)) (one_flatc (one_cons rfl (one_cons rfl one_nil)) one_flat0)) NG rfl LN ?_)
  refine At.p (some 5) (P_assign rfl rfl) ?_
  refine At.p (some 6) (P_assign rfl rfl) ?_
  refine At.nil ?_
  refine At.next ?_
  refine At.ret ?_
  refine At.thn_r ?_
  have z5 := usE_1 (key := key) (tk := tk) e12
  obtain ⟨z1, z2, z3, z4⟩ := us_f (key := key) (nx := next) (L := L) (tk := tk) (by rw [z5]; decide)
  refine At.empty 990 0 96 ?_
  refine At.giveV (.inl rfl) [990] (rows' := [_]) (ResV.three rfl (ResOne.cellA (k := 4) rfl Try.underlying40 rfl sz40 LN rfl) (ResOne.tmp rfl) (ResOne.tmp rfl)) rfl (by simp) (by simp) ?_
  exact ⟨none, 0, 0, (fun h => absurd h (Nat.lt_irrefl 0)), (by simp only [z1, z2, z3, z4, z5]; exact Nat.le_refl _), (by first | (rw [z1, z2, z3, z4, z5]; try rfl; done) | (rw [← z1, ← z2, ← z3, ← z4, ← z5]; try rfl; done) | (simp only [z1, z2, z3, z4, z5]; try rfl; done) | (simp only [← z1, ← z2, ← z3, ← z4, ← z5]; try rfl; done) | rfl), (by first | (rw [z1, z2, z3, z4, z5]; try rfl; done) | (rw [← z1, ← z2, ← z3, ← z4, ← z5]; try rfl; done) | (simp only [z1, z2, z3, z4, z5]; try rfl; done) | (simp only [← z1, ← z2, ← z3, ← z4, ← z5]; try rfl; done) | rfl)⟩
 · -- cond 12 f
  have e12 : rightT next L = true := (by first | (simp; done) | simpa using h12)
  refine At.skip ?_
  refine At.next ?_
  refine At.seq ?_
  refine At.region ?_
  refine At.q (some 15) (Q_loadA (k := 2) rfl rfl Try.underlying40 rfl sz40 LN rfl) ?_
  refine At.p (some 16) (P_move rfl rfl) ?_
  refine At.s (S_callV (some 17) [(0, _), (1, _)] [] (vs := [_, _]) rfl en61 rfl (VN (by simp) rfl View.all (VN (by simp) rfl View.all V0)) (by simp) (c_TNum (key := key) (next := next) (L := L) (A := A) (n := n) (c := c) (b := b) (q := q) (tk := tk) (ntk := ntk) (Atk := Atk) (ctk := ctk) (btk := btk) (qtk := qtk) LN LN hA OG LN hAtk OG) (by rintro _ _ ⟨rfl, rfl⟩; rfl) ?_)
  rintro _ _ ⟨rfl, rfl⟩
  refine At.p (some 14) (P_move rfl rfl) ?_
  refine At.p (some 18) (P_extract rfl rfl rfl) ?_
  refine At.p (some 19) (P_extract rfl rfl rfl) ?_
  refine At.s (S_alloc (some 7) 7 (zs := [iV 0]) rfl ze3 rfl (fun b7 => ?_))
  refine At.s (S_store none (k := 7) rfl rfl rfl sz3 rfl rfl rfl LN ?_)
  refine At.p (some 8) (P_assign rfl rfl) ?_
  refine At.nil ?_
  refine At.next ?_
  refine At.seq ?_
  refine At.seq ?_
  refine At.region ?_
  refine At.p (some 20) (P_move rfl rfl) ?_
  refine At.p (some 21) (P_not rfl rfl) ?_
  refine At.nil ?_
  refine At.next ?_
  refine At.cond rfl (fun h21 => ?_) (fun h21 => ?_)
  · -- cond 21 t
   have e21 : nuOk key next tk = false := (by first | (simp; done) | simpa using h21)
   refine At.seq ?_
   refine At.region ?_
   refine At.p (some 22) (P_build_struct (cs := ([(List.replicate 32 0#8).map u8V, [iV 0, .slice none 0 0]].flatten).toArray) (parts := _) (vs := []) rfl Try.underlying40 ze40 pl40 rfl (by show Instr.fill _ ([(List.replicate 32 0#8).map u8V, [iV 0], [.slice none 0 0]].flatten).toArray _ = _; exact fill_end (by simp))) ?_
   refine At.s (S_storeA none (k := 4) (vs := [(List.replicate 32 0#8).map u8V, [iV 0, .slice none 0 0]].flatten) rfl rfl rfl (by rw [sz40]; exact congrArg some LN) rfl (one_flatc (one_map (fun _ => rfl)) (one_flatc (one_cons rfl (one_cons rfl one_nil)) one_flat0)) NG rfl LN ?_)
   refine At.p (some 5) (P_assign rfl rfl) ?_
   refine At.p (some 6) (P_assign rfl rfl) ?_
   refine At.nil ?_
   refine At.next ?_
   refine At.ret ?_
   refine At.thn_r ?_
   have z5 := usE_13 (key := key) e12 e21
   obtain ⟨z1, z2, z3, z4⟩ := us_f (key := key) (nx := next) (L := L) (tk := tk) (by rw [z5]; decide)
   refine At.empty 990 0 96 ?_
   refine At.giveV (.inl rfl) [990] (rows' := [_]) (ResV.three rfl (ResOne.cellA (k := 4) rfl Try.underlying40 rfl sz40 LN rfl) (ResOne.tmp rfl) (ResOne.tmp rfl)) rfl (by simp) (by simp) ?_
   exact ⟨none, 0, 0, (fun h => absurd h (Nat.lt_irrefl 0)), (by simp only [z1, z2, z3, z4, z5]; exact Nat.le_refl _), (by first | (rw [z1, z2, z3, z4, z5]; try rfl; done) | (rw [← z1, ← z2, ← z3, ← z4, ← z5]; try rfl; done) | (simp only [z1, z2, z3, z4, z5]; try rfl; done) | (simp only [← z1, ← z2, ← z3, ← z4, ← z5]; try rfl; done) | rfl), (by first | (rw [z1, z2, z3, z4, z5]; try rfl; done) | (rw [← z1, ← z2, ← z3, ← z4, ← z5]; try rfl; done) | (simp only [z1, z2, z3, z4, z5]; try rfl; done) | (simp only [← z1, ← z2, ← z3, ← z4, ← z5]; try rfl; done) | rfl)⟩
  · -- cond 21 f
   have e21 : nuOk key next tk = true := (by first | (simp; done) | simpa using h21)
   refine At.skip ?_
   refine At.next ?_
   refine At.seq ?_
   have hr8 := rt_t e12
   refine At.region ?_
   refine At.p (some 23) (P_fieldAddr0 (off := 33) rfl Try.underlying40 rfl sz38 rfl rfl) ?_
   refine At.q (some 24) (Q_loadO (k := 2) rfl rfl Try.underlying38 rfl rfl (seg_get (i := 1) (p := 1) rfl LN rfl)) ?_
   refine At.p (some 25) (P_makeFunc (vs := [_]) rfl rfl) ?_
   refine At.s (S_callV (some 26) [(0, _), (7, _)] [] (vs := [_, _]) rfl en62 rfl (VN (by simp) rfl View.all (VN (by simp) rfl View.all V0)) (by simp) (c_Idx (L := L) (A := A) (n := n) (c := c) (b := b) (q := q) (bp := b7) (id := (nuI tk : Int)) LN hA OG) (by rintro _ _ ⟨rfl, rfl⟩; rfl) ?_)
   rintro _ _ ⟨rfl, rfl⟩
   refine At.p (some 9) (P_assign rfl rfl) ?_
   refine At.nil ?_
   refine At.next ?_
   refine At.seq ?_
   refine At.seq ?_
   refine At.region ?_
   refine At.p (some 27) (P_move rfl rfl) ?_
   refine At.p (some 28) (P_cmp rfl rfl rfl rfl rfl rfl) ?_
   refine At.nil ?_
   refine At.next ?_
   refine At.cond rfl (fun h28 => ?_) (fun h28 => ?_)
   · -- cond 28 t
    have e28 : (idxI (nuI tk : Int) L) < 0 := of_decide_eq_true h28
    refine At.seq ?_
    refine At.region ?_
    refine At.p (some 29) (P_build_struct (cs := ([(List.replicate 32 0#8).map u8V, [iV 0, .slice none 0 0]].flatten).toArray) (parts := _) (vs := []) rfl Try.underlying40 ze40 pl40 rfl (by show Instr.fill _ ([(List.replicate 32 0#8).map u8V, [iV 0], [.slice none 0 0]].flatten).toArray _ = _; exact fill_end (by simp))) ?_
    refine At.s (S_storeA none (k := 4) (vs := [(List.replicate 32 0#8).map u8V, [iV 0, .slice none 0 0]].flatten) rfl rfl rfl (by rw [sz40]; exact congrArg some LN) rfl (one_flatc (one_map (fun _ => rfl)) (one_flatc (one_cons rfl (one_cons rfl one_nil)) one_flat0)) NG rfl LN ?_)
    refine At.p (some 5) (P_assign rfl rfl) ?_
    refine At.p (some 6) (P_assign rfl rfl) ?_
    refine At.nil ?_
    refine At.next ?_
    refine At.ret ?_
    refine At.thn_r ?_
    have z5 := usE_11 (key := key) e12 e21 (idxI_neg e28)
    obtain ⟨z1, z2, z3, z4⟩ := us_f (key := key) (nx := next) (L := L) (tk := tk) (by rw [z5]; decide)
    refine At.empty 990 0 96 ?_
    refine At.giveV (.inl rfl) [990] (rows' := [_]) (ResV.three rfl (ResOne.cellA (k := 4) rfl Try.underlying40 rfl sz40 LN rfl) (ResOne.tmp rfl) (ResOne.tmp rfl)) rfl (by simp) (by simp) ?_
    exact ⟨none, 0, 0, (fun h => absurd h (Nat.lt_irrefl 0)), (by simp only [z1, z2, z3, z4, z5]; exact Nat.le_refl _), (by first | (rw [z1, z2, z3, z4, z5]; try rfl; done) | (rw [← z1, ← z2, ← z3, ← z4, ← z5]; try rfl; done) | (simp only [z1, z2, z3, z4, z5]; try rfl; done) | (simp only [← z1, ← z2, ← z3, ← z4, ← z5]; try rfl; done) | rfl), (by first | (rw [z1, z2, z3, z4, z5]; try rfl; done) | (rw [← z1, ← z2, ← z3, ← z4, ← z5]; try rfl; done) | (simp only [z1, z2, z3, z4, z5]; try rfl; done) | (simp only [← z1, ← z2, ← z3, ← z4, ← z5]; try rfl; done) | rfl)⟩
   · -- cond 28 f
    have e28 : ¬ (idxI (nuI tk : Int) L) < 0 := of_decide_eq_false h28
    refine At.skip ?_
    refine At.next ?_
    refine At.seq ?_
    obtain ⟨q1, q2⟩ := idxI_pos e28
    rw [q2]
    have hr8 := rt_t e12
    refine At.bBruteG [10, 13] (fun fr H => ∃ (A36 : Option Addr) (b36 c36 : Nat), fr = frOf [(4, ptr b4 0), (5, iV (nuI tk : Int)), (6, iV 0)] ∧ H = hOf [(4, ⟨true, b4, 0, 40, [(key).map u8V, [iV next, .slice (some ⟨b36, 0, none⟩) ((L.eraseIdx (idxS ((nuI tk : Nat) : Int) L)).length) c36]].flatten, 0⟩), (36, ⟨true, b36, 0, 96, encs EntE (L.eraseIdx (idxS ((nuI tk : Nat) : Int) L)), (c36 - (L.eraseIdx (idxS ((nuI tk : Nat) : Int) L)).length) * 33⟩)] ∧ (0 < c36 → A36 = some ⟨b36, 0, none⟩) ∧ (L.length ≤ c36) ∧ True) (by kernel_rfl) ?_ ?_
    ·
     intro Kb hKb G hGi hGo
     have hG9_0 (A36 : Option Addr) (b36 c36 : Nat) (g36a : 0 < c36 → A36 = some ⟨b36, 0, none⟩) (g36b : L.length ≤ c36) : G 0 #[true, true, true, true, true, true, true, true, true, true, true, true, true, true, true, true] (frOf [(4, ptr b4 0), (5, iV (nuI tk : Int)), (6, iV 0)]) (hOf [(4, ⟨true, b4, 0, 40, [(key).map u8V, [iV next, .slice (some ⟨b36, 0, none⟩) ((L.eraseIdx (idxS ((nuI tk : Nat) : Int) L)).length) c36]].flatten, 0⟩), (36, ⟨true, b36, 0, 96, encs EntE (L.eraseIdx (idxS ((nuI tk : Nat) : Int) L)), (c36 - (L.eraseIdx (idxS ((nuI tk : Nat) : Int) L)).length) * 33⟩)]) := by
      refine hGo ?_
      refine At.bEnd (by kernel_rfl) ?_
      refine At.next ?_
      exact hKb _ _ ⟨A36, b36, c36, rfl, rfl, g36a, g36b, trivial⟩
     have hG9_1 (A36 : Option Addr) (b36 c36 : Nat) (g36a : 0 < c36 → A36 = some ⟨b36, 0, none⟩) (g36b : L.length ≤ c36) : G 3 #[true, true, true, true, true, true, true, true, true, true, true, true, true, false, false, false] (frOf [(4, ptr b4 0), (5, iV 0), (6, iV 0), (41, .agg ([(key).map u8V, [iV next, .slice (some ⟨b36, 0, none⟩) ((L.eraseIdx (idxS ((nuI tk : Nat) : Int) L)).length) c36]].flatten).toArray), (42, iV (nuI tk : Int))]) (hOf [(4, ⟨true, b4, 0, 40, [(List.replicate 32 0#8).map u8V, [iV 0, .slice none 0 0]].flatten, 0⟩), (36, ⟨true, b36, 0, 96, encs EntE (L.eraseIdx (idxS ((nuI tk : Nat) : Int) L)), (c36 - (L.eraseIdx (idxS ((nuI tk : Nat) : Int) L)).length) * 33⟩)]) := by
      refine hGo ?_
      refine At.bStep [13] (by kernel_rfl) (by simp) ?_
      refine At.bS true (by kernel_rfl) (S_storeA none (k := 4) (vs := [(key).map u8V, [iV next, .slice (some ⟨b36, 0, none⟩) ((L.eraseIdx (idxS ((nuI tk : Nat) : Int) L)).length) c36]].flatten) rfl rfl rfl (by rw [sz40]; exact congrArg some LN) rfl (one_flatc (one_map (fun _ => rfl)) (one_flatc (one_cons rfl (one_cons rfl one_nil)) one_flat0)) NG rfl LN ?_)
      refine At.bP  14 (some 5) (P_assign rfl rfl) (by kernel_rfl) (by kernel_rfl) ?_
      refine At.bP  15 (some 6) (P_assign rfl rfl) (by kernel_rfl) (by kernel_rfl) ?_
      exact At.into (hGi (hG9_0 A36 b36 c36 g36a g36b)) rfl rfl
     have hG9_2 (A36 : Option Addr) (b36 c36 : Nat) (g36a : 0 < c36 → A36 = some ⟨b36, 0, none⟩) (g36b : L.length ≤ c36) : G 4 #[true, true, true, true, true, true, true, true, true, true, true, true, false, false, false, false] (frOf [(4, ptr b4 0), (5, iV 0), (6, iV 0), (7, ptr b7 0), (41, .agg ([(key).map u8V, [iV next, .slice (some ⟨b36, 0, none⟩) ((L.eraseIdx (idxS ((nuI tk : Nat) : Int) L)).length) c36]].flatten).toArray)]) (hOf [(4, ⟨true, b4, 0, 40, [(List.replicate 32 0#8).map u8V, [iV 0, .slice none 0 0]].flatten, 0⟩), (7, ⟨true, b7, 0, 3, [iV (nuI tk : Int)], 0⟩), (36, ⟨true, b36, 0, 96, encs EntE (L.eraseIdx (idxS ((nuI tk : Nat) : Int) L)), (c36 - (L.eraseIdx (idxS ((nuI tk : Nat) : Int) L)).length) * 33⟩)]) := by
      refine hGo ?_
      refine At.bStep [12, 13] (by kernel_rfl) (by simp) ?_
      refine ⟨?_, ?_⟩
      ·
       refine At.bSQ (some 42) (Q_loadO (k := 7) rfl rfl Try.underlying3 rfl rfl rfl) ?_
       exact At.into (hGi (hG9_1 A36 b36 c36 g36a g36b)) rfl rfl
      ·
       refine At.bS true (by kernel_rfl) (S_storeA none (k := 4) (vs := [(key).map u8V, [iV next, .slice (some ⟨b36, 0, none⟩) ((L.eraseIdx (idxS ((nuI tk : Nat) : Int) L)).length) c36]].flatten) rfl rfl rfl (by rw [sz40]; exact congrArg some LN) rfl (one_flatc (one_map (fun _ => rfl)) (one_flatc (one_cons rfl (one_cons rfl one_nil)) one_flat0)) NG rfl LN ?_)
       refine At.bQ  12 (some 42) (Q_loadO (k := 7) rfl rfl Try.underlying3 rfl rfl rfl) (by kernel_rfl) (by kernel_rfl) ?_
       refine At.bP  14 (some 5) (P_assign rfl rfl) (by kernel_rfl) (by kernel_rfl) ?_
       refine At.bP  15 (some 6) (P_assign rfl rfl) (by kernel_rfl) (by kernel_rfl) ?_
       exact At.into (hGi (hG9_0 A36 b36 c36 g36a g36b)) rfl rfl
     have hG9_3 (A36 : Option Addr) (b36 c36 : Nat) (g36a : 0 < c36 → A36 = some ⟨b36, 0, none⟩) (g36b : L.length ≤ c36) : G 5 #[true, true, true, true, true, true, true, true, true, true, false, false, true, false, false, false] (frOf [(4, ptr b4 0), (5, iV 0), (6, iV 0), (31, aggK key), (33, iV next), (36, .slice A36 L.length c36), (37, iV (idxS ((nuI tk : Nat) : Int) L : Int)), (39, iV ((idxS ((nuI tk : Nat) : Int) L : Int) + 1)), (42, iV (nuI tk : Int))]) (hOf [(4, ⟨true, b4, 0, 40, [(List.replicate 32 0#8).map u8V, [iV 0, .slice none 0 0]].flatten, 0⟩), (36, ⟨true, b36, 0, 96, encs EntE L, (c36 - (L).length) * 33⟩)]) := by
      clear hG9_0 hG9_2
      refine hGo ?_
      refine At.bStep [10] (by kernel_rfl) (by simp) ?_
      refine At.bS true (by kernel_rfl) (S_callR (some 40) [(36, _)] [] [36] (vs := [_, _, _]) rfl en59 rfl (ON rfl rfl O0) (by simp) V0 (by simp) (c_DelE (L := L) (A := A36) (c := c36) (b := b36) (i := (idxS ((nuI tk : Nat) : Int) L)) g36a OG OG) (by rintro _ _ ⟨rfl, rfl⟩; rfl) ?_)
      rintro _ _ ⟨rfl, rfl⟩
      have hle40 : (L.eraseIdx (idxS ((nuI tk : Nat) : Int) L)).length = L.length - 1 := by rw [List.length_eraseIdx, if_pos (by first | omega | (simp; omega))]
      refine At.bP  11 (some 41) (P_build_struct (cs := ([(key).map u8V, [iV next, .slice (some ⟨b36, 0, none⟩) ((L.eraseIdx (idxS ((nuI tk : Nat) : Int) L)).length) c36]].flatten).toArray) (parts := _) (vs := [(0, _), (1, _), (2, _)]) rfl Try.underlying40 ze40 pl40 rfl (by show Instr.fill _ ([(List.replicate 32 0#8).map u8V, [iV 0], [.slice none 0 0]].flatten).toArray _ = _; refine fill_seg (k := 0) (vs := (key).map u8V) rfl rfl LN rfl LN LN ?_; refine fill_seg (k := 1) (vs := [iV next]) rfl rfl LN rfl LN LN ?_; refine fill_seg (k := 2) (vs := [.slice (some ⟨b36, 0, none⟩) ((L.eraseIdx (idxS ((nuI tk : Nat) : Int) L)).length) c36]) rfl rfl LN rfl LN LN ?_; exact fill_end (by simp))) (by kernel_rfl) (by kernel_rfl) ?_
      exact At.into (hGi (hG9_1 A36 b36 c36 g36a g36b)) rfl rfl
     have hG9_4 (A36 : Option Addr) (b36 c36 : Nat) (g36a : 0 < c36 → A36 = some ⟨b36, 0, none⟩) (g36b : L.length ≤ c36) : G 6 #[true, true, true, true, true, true, true, true, true, true, false, false, false, false, false, false] (frOf [(4, ptr b4 0), (5, iV 0), (6, iV 0), (7, ptr b7 0), (31, aggK key), (33, iV next), (36, .slice A36 L.length c36), (37, iV (idxS ((nuI tk : Nat) : Int) L : Int)), (39, iV ((idxS ((nuI tk : Nat) : Int) L : Int) + 1))]) (hOf [(4, ⟨true, b4, 0, 40, [(List.replicate 32 0#8).map u8V, [iV 0, .slice none 0 0]].flatten, 0⟩), (7, ⟨true, b7, 0, 3, [iV (nuI tk : Int)], 0⟩), (36, ⟨true, b36, 0, 96, encs EntE L, (c36 - (L).length) * 33⟩)]) := by
      clear hG9_0 hG9_1
      refine hGo ?_
      refine At.bStep [10, 12] (by kernel_rfl) (by simp) ?_
      refine ⟨?_, ?_⟩
      ·
       refine At.bS true (by kernel_rfl) (S_callR (some 40) [(36, _)] [] [36] (vs := [_, _, _]) rfl en59 rfl (ON rfl rfl O0) (by simp) V0 (by simp) (c_DelE (L := L) (A := A36) (c := c36) (b := b36) (i := (idxS ((nuI tk : Nat) : Int) L)) g36a OG OG) (by rintro _ _ ⟨rfl, rfl⟩; rfl) ?_)
       rintro _ _ ⟨rfl, rfl⟩
       have hle40 : (L.eraseIdx (idxS ((nuI tk : Nat) : Int) L)).length = L.length - 1 := by rw [List.length_eraseIdx, if_pos (by first | omega | (simp; omega))]
       refine At.bP  11 (some 41) (P_build_struct (cs := ([(key).map u8V, [iV next, .slice (some ⟨b36, 0, none⟩) ((L.eraseIdx (idxS ((nuI tk : Nat) : Int) L)).length) c36]].flatten).toArray) (parts := _) (vs := [(0, _), (1, _), (2, _)]) rfl Try.underlying40 ze40 pl40 rfl (by show Instr.fill _ ([(List.replicate 32 0#8).map u8V, [iV 0], [.slice none 0 0]].flatten).toArray _ = _; refine fill_seg (k := 0) (vs := (key).map u8V) rfl rfl LN rfl LN LN ?_; refine fill_seg (k := 1) (vs := [iV next]) rfl rfl LN rfl LN LN ?_; refine fill_seg (k := 2) (vs := [.slice (some ⟨b36, 0, none⟩) ((L.eraseIdx (idxS ((nuI tk : Nat) : Int) L)).length) c36]) rfl rfl LN rfl LN LN ?_; exact fill_end (by simp))) (by kernel_rfl) (by kernel_rfl) ?_
       exact At.into (hGi (hG9_2 A36 b36 c36 g36a g36b)) rfl rfl
      ·
       refine At.bSQ (some 42) (Q_loadO (k := 7) rfl rfl Try.underlying3 rfl rfl rfl) ?_
       exact At.into (hGi (hG9_3 A36 b36 c36 g36a g36b)) rfl rfl
     have hG9_5  : G 6 #[true, true, true, true, true, true, false, true, true, true, false, false, true, false, false, false] (frOf [(4, ptr b4 0), (5, iV 0), (6, iV 0), (31, aggK key), (33, iV next), (35, .slice A n c), (37, iV (idxS ((nuI tk : Nat) : Int) L : Int)), (39, iV ((idxS ((nuI tk : Nat) : Int) L : Int) + 1)), (42, iV (nuI tk : Int))]) (hOf [(0, ⟨false, b, q, 0, encs EntE L, 0⟩), (4, ⟨true, b4, 0, 40, [(List.replicate 32 0#8).map u8V, [iV 0, .slice none 0 0]].flatten, 0⟩)]) := by
      clear hG9_0 hG9_1 hG9_2 hG9_4
      refine hGo ?_
      refine At.bStep [6] (by kernel_rfl) (by simp) ?_
      refine At.bS false (by kernel_rfl) (S_callV (some 36) [(0, _)] [36] (vs := [_]) rfl en58 rfl (VN (by simp) rfl View.all V0) (by simp) (c_CloneEn (L := L) (A := A) (n := n) (c := c) (b := b) (q := q) LN hA OG) (by rintro _ _ ⟨A36, b36, c36, g36a, g36b, rfl, rfl⟩; rfl) ?_)
      rintro _ _ ⟨A36, b36, c36, g36a, g36b, rfl, rfl⟩
      exact At.into (hGi (hG9_3 A36 b36 c36 g36a g36b)) rfl rfl
     have hG9_6 (A36 : Option Addr) (b36 c36 : Nat) (g36a : 0 < c36 → A36 = some ⟨b36, 0, none⟩) (g36b : L.length ≤ c36) : G 6 #[true, true, true, false, true, true, true, true, true, true, false, false, true, false, false, false] (frOf [(4, ptr b4 0), (5, iV 0), (6, iV 0), (31, aggK key), (32, ptr b2 32), (36, .slice A36 L.length c36), (37, iV (idxS ((nuI tk : Nat) : Int) L : Int)), (39, iV ((idxS ((nuI tk : Nat) : Int) L : Int) + 1)), (42, iV (nuI tk : Int))]) (hOf [(0, ⟨false, b, q, 0, encs EntE L, 0⟩), (2, ⟨true, b2, 0, 40, [(key).map u8V, [iV next, .slice A n c]].flatten, 0⟩), (4, ⟨true, b4, 0, 40, [(List.replicate 32 0#8).map u8V, [iV 0, .slice none 0 0]].flatten, 0⟩), (36, ⟨true, b36, 0, 96, encs EntE L, (c36 - (L).length) * 33⟩)]) := by
      clear hG9_0 hG9_2 hG9_4 hG9_5
      refine hGo ?_
      refine At.bStep [3, 10] (by kernel_rfl) (by simp) ?_
      refine ⟨?_, ?_⟩
      ·
       refine At.bSQ (some 33) (Q_loadO (k := 2) rfl rfl Try.underlying3 rfl rfl (seg_get (i := 1) (p := 0) rfl LN rfl)) ?_
       exact At.into (hGi (hG9_3 A36 b36 c36 g36a g36b)) rfl rfl
      ·
       refine At.bS true (by kernel_rfl) (S_callR (some 40) [(36, _)] [] [36] (vs := [_, _, _]) rfl en59 rfl (ON rfl rfl O0) (by simp) V0 (by simp) (c_DelE (L := L) (A := A36) (c := c36) (b := b36) (i := (idxS ((nuI tk : Nat) : Int) L)) g36a OG OG) (by rintro _ _ ⟨rfl, rfl⟩; rfl) ?_)
       rintro _ _ ⟨rfl, rfl⟩
       have hle40 : (L.eraseIdx (idxS ((nuI tk : Nat) : Int) L)).length = L.length - 1 := by rw [List.length_eraseIdx, if_pos (by first | omega | (simp; omega))]
       refine At.bQ  3 (some 33) (Q_loadO (k := 2) rfl rfl Try.underlying3 rfl rfl (seg_get (i := 1) (p := 0) rfl LN rfl)) (by kernel_rfl) (by kernel_rfl) ?_
       refine At.bP  11 (some 41) (P_build_struct (cs := ([(key).map u8V, [iV next, .slice (some ⟨b36, 0, none⟩) ((L.eraseIdx (idxS ((nuI tk : Nat) : Int) L)).length) c36]].flatten).toArray) (parts := _) (vs := [(0, _), (1, _), (2, _)]) rfl Try.underlying40 ze40 pl40 rfl (by show Instr.fill _ ([(List.replicate 32 0#8).map u8V, [iV 0], [.slice none 0 0]].flatten).toArray _ = _; refine fill_seg (k := 0) (vs := (key).map u8V) rfl rfl LN rfl LN LN ?_; refine fill_seg (k := 1) (vs := [iV next]) rfl rfl LN rfl LN LN ?_; refine fill_seg (k := 2) (vs := [.slice (some ⟨b36, 0, none⟩) ((L.eraseIdx (idxS ((nuI tk : Nat) : Int) L)).length) c36]) rfl rfl LN rfl LN LN ?_; exact fill_end (by simp))) (by kernel_rfl) (by kernel_rfl) ?_
       exact At.into (hGi (hG9_1 A36 b36 c36 g36a g36b)) rfl rfl
     have hG9_7 (A36 : Option Addr) (b36 c36 : Nat) (g36a : 0 < c36 → A36 = some ⟨b36, 0, none⟩) (g36b : L.length ≤ c36) : G 6 #[true, false, true, true, true, true, true, true, true, true, false, false, true, false, false, false] (frOf [(4, ptr b4 0), (5, iV 0), (6, iV 0), (30, ptr b2 0), (33, iV next), (36, .slice A36 L.length c36), (37, iV (idxS ((nuI tk : Nat) : Int) L : Int)), (39, iV ((idxS ((nuI tk : Nat) : Int) L : Int) + 1)), (42, iV (nuI tk : Int))]) (hOf [(0, ⟨false, b, q, 0, encs EntE L, 0⟩), (2, ⟨true, b2, 0, 40, [(key).map u8V, [iV next, .slice A n c]].flatten, 0⟩), (4, ⟨true, b4, 0, 40, [(List.replicate 32 0#8).map u8V, [iV 0, .slice none 0 0]].flatten, 0⟩), (36, ⟨true, b36, 0, 96, encs EntE L, (c36 - (L).length) * 33⟩)]) := by
      clear hG9_0 hG9_2 hG9_4 hG9_5 hG9_6
      refine hGo ?_
      refine At.bStep [1, 10] (by kernel_rfl) (by simp) ?_
      refine ⟨?_, ?_⟩
      ·
       refine At.bSQ (some 31) (Q_loadN (k := 2) (j := 0) (cs := (key).map u8V) rfl rfl Try.underlying23 rfl sz23 rfl rfl rfl (seg_at (i := 0) rfl LN LN) LN) ?_
       exact At.into (hGi (hG9_3 A36 b36 c36 g36a g36b)) rfl rfl
      ·
       refine At.bS true (by kernel_rfl) (S_callR (some 40) [(36, _)] [] [36] (vs := [_, _, _]) rfl en59 rfl (ON rfl rfl O0) (by simp) V0 (by simp) (c_DelE (L := L) (A := A36) (c := c36) (b := b36) (i := (idxS ((nuI tk : Nat) : Int) L)) g36a OG OG) (by rintro _ _ ⟨rfl, rfl⟩; rfl) ?_)
       rintro _ _ ⟨rfl, rfl⟩
       have hle40 : (L.eraseIdx (idxS ((nuI tk : Nat) : Int) L)).length = L.length - 1 := by rw [List.length_eraseIdx, if_pos (by first | omega | (simp; omega))]
       refine At.bQ  1 (some 31) (Q_loadN (k := 2) (j := 0) (cs := (key).map u8V) rfl rfl Try.underlying23 rfl sz23 rfl rfl rfl (seg_at (i := 0) rfl LN LN) LN) (by kernel_rfl) (by kernel_rfl) ?_
       refine At.bP  11 (some 41) (P_build_struct (cs := ([(key).map u8V, [iV next, .slice (some ⟨b36, 0, none⟩) ((L.eraseIdx (idxS ((nuI tk : Nat) : Int) L)).length) c36]].flatten).toArray) (parts := _) (vs := [(0, _), (1, _), (2, _)]) rfl Try.underlying40 ze40 pl40 rfl (by show Instr.fill _ ([(List.replicate 32 0#8).map u8V, [iV 0], [.slice none 0 0]].flatten).toArray _ = _; refine fill_seg (k := 0) (vs := (key).map u8V) rfl rfl LN rfl LN LN ?_; refine fill_seg (k := 1) (vs := [iV next]) rfl rfl LN rfl LN LN ?_; refine fill_seg (k := 2) (vs := [.slice (some ⟨b36, 0, none⟩) ((L.eraseIdx (idxS ((nuI tk : Nat) : Int) L)).length) c36]) rfl rfl LN rfl LN LN ?_; exact fill_end (by simp))) (by kernel_rfl) (by kernel_rfl) ?_
       exact At.into (hGi (hG9_1 A36 b36 c36 g36a g36b)) rfl rfl
     have hG9_8  : G 7 #[true, true, true, true, true, true, false, true, true, true, false, false, false, false, false, false] (frOf [(4, ptr b4 0), (5, iV 0), (6, iV 0), (7, ptr b7 0), (31, aggK key), (33, iV next), (35, .slice A n c), (37, iV (idxS ((nuI tk : Nat) : Int) L : Int)), (39, iV ((idxS ((nuI tk : Nat) : Int) L : Int) + 1))]) (hOf [(0, ⟨false, b, q, 0, encs EntE L, 0⟩), (4, ⟨true, b4, 0, 40, [(List.replicate 32 0#8).map u8V, [iV 0, .slice none 0 0]].flatten, 0⟩), (7, ⟨true, b7, 0, 3, [iV (nuI tk : Int)], 0⟩)]) := by
      clear hG9_0 hG9_1 hG9_2 hG9_3 hG9_6 hG9_7
      refine hGo ?_
      refine At.bStep [6, 12] (by kernel_rfl) (by simp) ?_
      refine ⟨?_, ?_⟩
      ·
       refine At.bS false (by kernel_rfl) (S_callV (some 36) [(0, _)] [36] (vs := [_]) rfl en58 rfl (VN (by simp) rfl View.all V0) (by simp) (c_CloneEn (L := L) (A := A) (n := n) (c := c) (b := b) (q := q) LN hA OG) (by rintro _ _ ⟨A36, b36, c36, g36a, g36b, rfl, rfl⟩; rfl) ?_)
       rintro _ _ ⟨A36, b36, c36, g36a, g36b, rfl, rfl⟩
       exact At.into (hGi (hG9_4 A36 b36 c36 g36a g36b)) rfl rfl
      ·
       refine At.bSQ (some 42) (Q_loadO (k := 7) rfl rfl Try.underlying3 rfl rfl rfl) ?_
       exact At.into (hGi (hG9_5 )) rfl rfl
     have hG9_9  : G 7 #[true, true, true, true, true, false, false, true, true, true, false, false, true, false, false, false] (frOf [(4, ptr b4 0), (5, iV 0), (6, iV 0), (31, aggK key), (33, iV next), (34, ptr b2 33), (37, iV (idxS ((nuI tk : Nat) : Int) L : Int)), (39, iV ((idxS ((nuI tk : Nat) : Int) L : Int) + 1)), (42, iV (nuI tk : Int))]) (hOf [(0, ⟨false, b, q, 0, encs EntE L, 0⟩), (2, ⟨true, b2, 0, 40, [(key).map u8V, [iV next, .slice A n c]].flatten, 0⟩), (4, ⟨true, b4, 0, 40, [(List.replicate 32 0#8).map u8V, [iV 0, .slice none 0 0]].flatten, 0⟩)]) := by
      clear hG9_0 hG9_1 hG9_2 hG9_3 hG9_4 hG9_6 hG9_7 hG9_8
      refine hGo ?_
      refine At.bStep [5] (by kernel_rfl) (by simp) ?_
      refine At.bSQ (some 35) (Q_loadO (k := 2) rfl rfl Try.underlying38 rfl rfl (seg_get (i := 1) (p := 1) rfl LN rfl)) ?_
      exact At.into (hGi (hG9_5 )) rfl rfl
     have hG9_10 (A36 : Option Addr) (b36 c36 : Nat) (g36a : 0 < c36 → A36 = some ⟨b36, 0, none⟩) (g36b : L.length ≤ c36) : G 7 #[true, true, true, false, true, true, true, true, true, true, false, false, false, false, false, false] (frOf [(4, ptr b4 0), (5, iV 0), (6, iV 0), (7, ptr b7 0), (31, aggK key), (32, ptr b2 32), (36, .slice A36 L.length c36), (37, iV (idxS ((nuI tk : Nat) : Int) L : Int)), (39, iV ((idxS ((nuI tk : Nat) : Int) L : Int) + 1))]) (hOf [(0, ⟨false, b, q, 0, encs EntE L, 0⟩), (2, ⟨true, b2, 0, 40, [(key).map u8V, [iV next, .slice A n c]].flatten, 0⟩), (4, ⟨true, b4, 0, 40, [(List.replicate 32 0#8).map u8V, [iV 0, .slice none 0 0]].flatten, 0⟩), (7, ⟨true, b7, 0, 3, [iV (nuI tk : Int)], 0⟩), (36, ⟨true, b36, 0, 96, encs EntE L, (c36 - (L).length) * 33⟩)]) := by
      clear hG9_0 hG9_1 hG9_3 hG9_5 hG9_7 hG9_8 hG9_9
      refine hGo ?_
      refine At.bStep [3, 10, 12] (by kernel_rfl) (by simp) ?_
      refine ⟨?_, ?_, ?_⟩
      ·
       refine At.bSQ (some 33) (Q_loadO (k := 2) rfl rfl Try.underlying3 rfl rfl (seg_get (i := 1) (p := 0) rfl LN rfl)) ?_
       exact At.into (hGi (hG9_4 A36 b36 c36 g36a g36b)) rfl rfl
      ·
       refine At.bS true (by kernel_rfl) (S_callR (some 40) [(36, _)] [] [36] (vs := [_, _, _]) rfl en59 rfl (ON rfl rfl O0) (by simp) V0 (by simp) (c_DelE (L := L) (A := A36) (c := c36) (b := b36) (i := (idxS ((nuI tk : Nat) : Int) L)) g36a OG OG) (by rintro _ _ ⟨rfl, rfl⟩; rfl) ?_)
       rintro _ _ ⟨rfl, rfl⟩
       have hle40 : (L.eraseIdx (idxS ((nuI tk : Nat) : Int) L)).length = L.length - 1 := by rw [List.length_eraseIdx, if_pos (by first | omega | (simp; omega))]
       refine At.bQ  3 (some 33) (Q_loadO (k := 2) rfl rfl Try.underlying3 rfl rfl (seg_get (i := 1) (p := 0) rfl LN rfl)) (by kernel_rfl) (by kernel_rfl) ?_
       refine At.bP  11 (some 41) (P_build_struct (cs := ([(key).map u8V, [iV next, .slice (some ⟨b36, 0, none⟩) ((L.eraseIdx (idxS ((nuI tk : Nat) : Int) L)).length) c36]].flatten).toArray) (parts := _) (vs := [(0, _), (1, _), (2, _)]) rfl Try.underlying40 ze40 pl40 rfl (by show Instr.fill _ ([(List.replicate 32 0#8).map u8V, [iV 0], [.slice none 0 0]].flatten).toArray _ = _; refine fill_seg (k := 0) (vs := (key).map u8V) rfl rfl LN rfl LN LN ?_; refine fill_seg (k := 1) (vs := [iV next]) rfl rfl LN rfl LN LN ?_; refine fill_seg (k := 2) (vs := [.slice (some ⟨b36, 0, none⟩) ((L.eraseIdx (idxS ((nuI tk : Nat) : Int) L)).length) c36]) rfl rfl LN rfl LN LN ?_; exact fill_end (by simp))) (by kernel_rfl) (by kernel_rfl) ?_
       exact At.into (hGi (hG9_2 A36 b36 c36 g36a g36b)) rfl rfl
      ·
       refine At.bSQ (some 42) (Q_loadO (k := 7) rfl rfl Try.underlying3 rfl rfl rfl) ?_
       exact At.into (hGi (hG9_6 A36 b36 c36 g36a g36b)) rfl rfl
     have hG9_11  : G 7 #[true, true, true, false, true, true, false, true, true, true, false, false, true, false, false, false] (frOf [(4, ptr b4 0), (5, iV 0), (6, iV 0), (31, aggK key), (32, ptr b2 32), (35, .slice A n c), (37, iV (idxS ((nuI tk : Nat) : Int) L : Int)), (39, iV ((idxS ((nuI tk : Nat) : Int) L : Int) + 1)), (42, iV (nuI tk : Int))]) (hOf [(0, ⟨false, b, q, 0, encs EntE L, 0⟩), (2, ⟨true, b2, 0, 40, [(key).map u8V, [iV next, .slice A n c]].flatten, 0⟩), (4, ⟨true, b4, 0, 40, [(List.replicate 32 0#8).map u8V, [iV 0, .slice none 0 0]].flatten, 0⟩)]) := by
      clear hG9_0 hG9_1 hG9_2 hG9_3 hG9_4 hG9_7 hG9_8 hG9_9 hG9_10
      refine hGo ?_
      refine At.bStep [3, 6] (by kernel_rfl) (by simp) ?_
      refine ⟨?_, ?_⟩
      ·
       refine At.bSQ (some 33) (Q_loadO (k := 2) rfl rfl Try.underlying3 rfl rfl (seg_get (i := 1) (p := 0) rfl LN rfl)) ?_
       exact At.into (hGi (hG9_5 )) rfl rfl
      ·
       refine At.bS false (by kernel_rfl) (S_callV (some 36) [(0, _)] [36] (vs := [_]) rfl en58 rfl (VN (by simp) rfl View.all V0) (by simp) (c_CloneEn (L := L) (A := A) (n := n) (c := c) (b := b) (q := q) LN hA OG) (by rintro _ _ ⟨A36, b36, c36, g36a, g36b, rfl, rfl⟩; rfl) ?_)
       rintro _ _ ⟨A36, b36, c36, g36a, g36b, rfl, rfl⟩
       exact At.into (hGi (hG9_6 A36 b36 c36 g36a g36b)) rfl rfl
     have hG9_12 (A36 : Option Addr) (b36 c36 : Nat) (g36a : 0 < c36 → A36 = some ⟨b36, 0, none⟩) (g36b : L.length ≤ c36) : G 7 #[true, false, true, true, true, true, true, true, true, true, false, false, false, false, false, false] (frOf [(4, ptr b4 0), (5, iV 0), (6, iV 0), (7, ptr b7 0), (30, ptr b2 0), (33, iV next), (36, .slice A36 L.length c36), (37, iV (idxS ((nuI tk : Nat) : Int) L : Int)), (39, iV ((idxS ((nuI tk : Nat) : Int) L : Int) + 1))]) (hOf [(0, ⟨false, b, q, 0, encs EntE L, 0⟩), (2, ⟨true, b2, 0, 40, [(key).map u8V, [iV next, .slice A n c]].flatten, 0⟩), (4, ⟨true, b4, 0, 40, [(List.replicate 32 0#8).map u8V, [iV 0, .slice none 0 0]].flatten, 0⟩), (7, ⟨true, b7, 0, 3, [iV (nuI tk : Int)], 0⟩), (36, ⟨true, b36, 0, 96, encs EntE L, (c36 - (L).length) * 33⟩)]) := by
      clear hG9_0 hG9_1 hG9_3 hG9_5 hG9_6 hG9_8 hG9_9 hG9_10 hG9_11
      refine hGo ?_
      refine At.bStep [1, 10, 12] (by kernel_rfl) (by simp) ?_
      refine ⟨?_, ?_, ?_⟩
      ·
       refine At.bSQ (some 31) (Q_loadN (k := 2) (j := 0) (cs := (key).map u8V) rfl rfl Try.underlying23 rfl sz23 rfl rfl rfl (seg_at (i := 0) rfl LN LN) LN) ?_
       exact At.into (hGi (hG9_4 A36 b36 c36 g36a g36b)) rfl rfl
      ·
       refine At.bS true (by kernel_rfl) (S_callR (some 40) [(36, _)] [] [36] (vs := [_, _, _]) rfl en59 rfl (ON rfl rfl O0) (by simp) V0 (by simp) (c_DelE (L := L) (A := A36) (c := c36) (b := b36) (i := (idxS ((nuI tk : Nat) : Int) L)) g36a OG OG) (by rintro _ _ ⟨rfl, rfl⟩; rfl) ?_)
       rintro _ _ ⟨rfl, rfl⟩
       have hle40 : (L.eraseIdx (idxS ((nuI tk : Nat) : Int) L)).length = L.length - 1 := by rw [List.length_eraseIdx, if_pos (by first | omega | (simp; omega))]
       refine At.bQ  1 (some 31) (Q_loadN (k := 2) (j := 0) (cs := (key).map u8V) rfl rfl Try.underlying23 rfl sz23 rfl rfl rfl (seg_at (i := 0) rfl LN LN) LN) (by kernel_rfl) (by kernel_rfl) ?_
       refine At.bP  11 (some 41) (P_build_struct (cs := ([(key).map u8V, [iV next, .slice (some ⟨b36, 0, none⟩) ((L.eraseIdx (idxS ((nuI tk : Nat) : Int) L)).length) c36]].flatten).toArray) (parts := _) (vs := [(0, _), (1, _), (2, _)]) rfl Try.underlying40 ze40 pl40 rfl (by show Instr.fill _ ([(List.replicate 32 0#8).map u8V, [iV 0], [.slice none 0 0]].flatten).toArray _ = _; refine fill_seg (k := 0) (vs := (key).map u8V) rfl rfl LN rfl LN LN ?_; refine fill_seg (k := 1) (vs := [iV next]) rfl rfl LN rfl LN LN ?_; refine fill_seg (k := 2) (vs := [.slice (some ⟨b36, 0, none⟩) ((L.eraseIdx (idxS ((nuI tk : Nat) : Int) L)).length) c36]) rfl rfl LN rfl LN LN ?_; exact fill_end (by simp))) (by kernel_rfl) (by kernel_rfl) ?_
       exact At.into (hGi (hG9_2 A36 b36 c36 g36a g36b)) rfl rfl
      ·
       refine At.bSQ (some 42) (Q_loadO (k := 7) rfl rfl Try.underlying3 rfl rfl rfl) ?_
       exact At.into (hGi (hG9_7 A36 b36 c36 g36a g36b)) rfl rfl
     have hG9_13  : G 7 #[true, false, true, true, true, true, false, true, true, true, false, false, true, false, false, false] (frOf [(4, ptr b4 0), (5, iV 0), (6, iV 0), (30, ptr b2 0), (33, iV next), (35, .slice A n c), (37, iV (idxS ((nuI tk : Nat) : Int) L : Int)), (39, iV ((idxS ((nuI tk : Nat) : Int) L : Int) + 1)), (42, iV (nuI tk : Int))]) (hOf [(0, ⟨false, b, q, 0, encs EntE L, 0⟩), (2, ⟨true, b2, 0, 40, [(key).map u8V, [iV next, .slice A n c]].flatten, 0⟩), (4, ⟨true, b4, 0, 40, [(List.replicate 32 0#8).map u8V, [iV 0, .slice none 0 0]].flatten, 0⟩)]) := by
      clear hG9_0 hG9_1 hG9_2 hG9_3 hG9_4 hG9_6 hG9_8 hG9_9 hG9_10 hG9_11 hG9_12
      refine hGo ?_
      refine At.bStep [1, 6] (by kernel_rfl) (by simp) ?_
      refine ⟨?_, ?_⟩
      ·
       refine At.bSQ (some 31) (Q_loadN (k := 2) (j := 0) (cs := (key).map u8V) rfl rfl Try.underlying23 rfl sz23 rfl rfl rfl (seg_at (i := 0) rfl LN LN) LN) ?_
       exact At.into (hGi (hG9_5 )) rfl rfl
      ·
       refine At.bS false (by kernel_rfl) (S_callV (some 36) [(0, _)] [36] (vs := [_]) rfl en58 rfl (VN (by simp) rfl View.all V0) (by simp) (c_CloneEn (L := L) (A := A) (n := n) (c := c) (b := b) (q := q) LN hA OG) (by rintro _ _ ⟨A36, b36, c36, g36a, g36b, rfl, rfl⟩; rfl) ?_)
       rintro _ _ ⟨A36, b36, c36, g36a, g36b, rfl, rfl⟩
       exact At.into (hGi (hG9_7 A36 b36 c36 g36a g36b)) rfl rfl
     have hG9_14 (A36 : Option Addr) (b36 c36 : Nat) (g36a : 0 < c36 → A36 = some ⟨b36, 0, none⟩) (g36b : L.length ≤ c36) : G 7 #[true, false, true, false, true, true, true, true, true, true, false, false, true, false, false, false] (frOf [(4, ptr b4 0), (5, iV 0), (6, iV 0), (30, ptr b2 0), (32, ptr b2 32), (36, .slice A36 L.length c36), (37, iV (idxS ((nuI tk : Nat) : Int) L : Int)), (39, iV ((idxS ((nuI tk : Nat) : Int) L : Int) + 1)), (42, iV (nuI tk : Int))]) (hOf [(0, ⟨false, b, q, 0, encs EntE L, 0⟩), (2, ⟨true, b2, 0, 40, [(key).map u8V, [iV next, .slice A n c]].flatten, 0⟩), (4, ⟨true, b4, 0, 40, [(List.replicate 32 0#8).map u8V, [iV 0, .slice none 0 0]].flatten, 0⟩), (36, ⟨true, b36, 0, 96, encs EntE L, (c36 - (L).length) * 33⟩)]) := by
      clear hG9_0 hG9_2 hG9_3 hG9_4 hG9_5 hG9_8 hG9_9 hG9_10 hG9_11 hG9_12 hG9_13
      refine hGo ?_
      refine At.bStep [1, 3, 10] (by kernel_rfl) (by simp) ?_
      refine ⟨?_, ?_, ?_⟩
      ·
       refine At.bSQ (some 31) (Q_loadN (k := 2) (j := 0) (cs := (key).map u8V) rfl rfl Try.underlying23 rfl sz23 rfl rfl rfl (seg_at (i := 0) rfl LN LN) LN) ?_
       exact At.into (hGi (hG9_6 A36 b36 c36 g36a g36b)) rfl rfl
      ·
       refine At.bSQ (some 33) (Q_loadO (k := 2) rfl rfl Try.underlying3 rfl rfl (seg_get (i := 1) (p := 0) rfl LN rfl)) ?_
       exact At.into (hGi (hG9_7 A36 b36 c36 g36a g36b)) rfl rfl
      ·
       refine At.bS true (by kernel_rfl) (S_callR (some 40) [(36, _)] [] [36] (vs := [_, _, _]) rfl en59 rfl (ON rfl rfl O0) (by simp) V0 (by simp) (c_DelE (L := L) (A := A36) (c := c36) (b := b36) (i := (idxS ((nuI tk : Nat) : Int) L)) g36a OG OG) (by rintro _ _ ⟨rfl, rfl⟩; rfl) ?_)
       rintro _ _ ⟨rfl, rfl⟩
       have hle40 : (L.eraseIdx (idxS ((nuI tk : Nat) : Int) L)).length = L.length - 1 := by rw [List.length_eraseIdx, if_pos (by first | omega | (simp; omega))]
       refine At.bQ  1 (some 31) (Q_loadN (k := 2) (j := 0) (cs := (key).map u8V) rfl rfl Try.underlying23 rfl sz23 rfl rfl rfl (seg_at (i := 0) rfl LN LN) LN) (by kernel_rfl) (by kernel_rfl) ?_
       refine At.bQ  3 (some 33) (Q_loadO (k := 2) rfl rfl Try.underlying3 rfl rfl (seg_get (i := 1) (p := 0) rfl LN rfl)) (by kernel_rfl) (by kernel_rfl) ?_
       refine At.bP  11 (some 41) (P_build_struct (cs := ([(key).map u8V, [iV next, .slice (some ⟨b36, 0, none⟩) ((L.eraseIdx (idxS ((nuI tk : Nat) : Int) L)).length) c36]].flatten).toArray) (parts := _) (vs := [(0, _), (1, _), (2, _)]) rfl Try.underlying40 ze40 pl40 rfl (by show Instr.fill _ ([(List.replicate 32 0#8).map u8V, [iV 0], [.slice none 0 0]].flatten).toArray _ = _; refine fill_seg (k := 0) (vs := (key).map u8V) rfl rfl LN rfl LN LN ?_; refine fill_seg (k := 1) (vs := [iV next]) rfl rfl LN rfl LN LN ?_; refine fill_seg (k := 2) (vs := [.slice (some ⟨b36, 0, none⟩) ((L.eraseIdx (idxS ((nuI tk : Nat) : Int) L)).length) c36]) rfl rfl LN rfl LN LN ?_; exact fill_end (by simp))) (by kernel_rfl) (by kernel_rfl) ?_
       exact At.into (hGi (hG9_1 A36 b36 c36 g36a g36b)) rfl rfl
     have hG9_15  : G 8 #[true, true, true, true, true, false, false, true, true, true, false, false, false, false, false, false] (frOf [(4, ptr b4 0), (5, iV 0), (6, iV 0), (7, ptr b7 0), (31, aggK key), (33, iV next), (34, ptr b2 33), (37, iV (idxS ((nuI tk : Nat) : Int) L : Int)), (39, iV ((idxS ((nuI tk : Nat) : Int) L : Int) + 1))]) (hOf [(0, ⟨false, b, q, 0, encs EntE L, 0⟩), (2, ⟨true, b2, 0, 40, [(key).map u8V, [iV next, .slice A n c]].flatten, 0⟩), (4, ⟨true, b4, 0, 40, [(List.replicate 32 0#8).map u8V, [iV 0, .slice none 0 0]].flatten, 0⟩), (7, ⟨true, b7, 0, 3, [iV (nuI tk : Int)], 0⟩)]) := by
      clear hG9_0 hG9_1 hG9_2 hG9_3 hG9_4 hG9_5 hG9_6 hG9_7 hG9_10 hG9_11 hG9_12 hG9_13 hG9_14
      refine hGo ?_
      refine At.bStep [5, 12] (by kernel_rfl) (by simp) ?_
      refine ⟨?_, ?_⟩
      ·
       refine At.bSQ (some 35) (Q_loadO (k := 2) rfl rfl Try.underlying38 rfl rfl (seg_get (i := 1) (p := 1) rfl LN rfl)) ?_
       exact At.into (hGi (hG9_8 )) rfl rfl
      ·
       refine At.bSQ (some 42) (Q_loadO (k := 7) rfl rfl Try.underlying3 rfl rfl rfl) ?_
       exact At.into (hGi (hG9_9 )) rfl rfl
     have hG9_16  : G 8 #[true, true, true, false, true, true, false, true, true, true, false, false, false, false, false, false] (frOf [(4, ptr b4 0), (5, iV 0), (6, iV 0), (7, ptr b7 0), (31, aggK key), (32, ptr b2 32), (35, .slice A n c), (37, iV (idxS ((nuI tk : Nat) : Int) L : Int)), (39, iV ((idxS ((nuI tk : Nat) : Int) L : Int) + 1))]) (hOf [(0, ⟨false, b, q, 0, encs EntE L, 0⟩), (2, ⟨true, b2, 0, 40, [(key).map u8V, [iV next, .slice A n c]].flatten, 0⟩), (4, ⟨true, b4, 0, 40, [(List.replicate 32 0#8).map u8V, [iV 0, .slice none 0 0]].flatten, 0⟩), (7, ⟨true, b7, 0, 3, [iV (nuI tk : Int)], 0⟩)]) := by
      clear hG9_0 hG9_1 hG9_2 hG9_3 hG9_4 hG9_5 hG9_6 hG9_7 hG9_9 hG9_12 hG9_13 hG9_14 hG9_15
      refine hGo ?_
      refine At.bStep [3, 6, 12] (by kernel_rfl) (by simp) ?_
      refine ⟨?_, ?_, ?_⟩
      ·
       refine At.bSQ (some 33) (Q_loadO (k := 2) rfl rfl Try.underlying3 rfl rfl (seg_get (i := 1) (p := 0) rfl LN rfl)) ?_
       exact At.into (hGi (hG9_8 )) rfl rfl
      ·
       refine At.bS false (by kernel_rfl) (S_callV (some 36) [(0, _)] [36] (vs := [_]) rfl en58 rfl (VN (by simp) rfl View.all V0) (by simp) (c_CloneEn (L := L) (A := A) (n := n) (c := c) (b := b) (q := q) LN hA OG) (by rintro _ _ ⟨A36, b36, c36, g36a, g36b, rfl, rfl⟩; rfl) ?_)
       rintro _ _ ⟨A36, b36, c36, g36a, g36b, rfl, rfl⟩
       exact At.into (hGi (hG9_10 A36 b36 c36 g36a g36b)) rfl rfl
      ·
       refine At.bSQ (some 42) (Q_loadO (k := 7) rfl rfl Try.underlying3 rfl rfl rfl) ?_
       exact At.into (hGi (hG9_11 )) rfl rfl
     have hG9_17  : G 8 #[true, true, true, false, true, false, false, true, true, true, false, false, true, false, false, false] (frOf [(4, ptr b4 0), (5, iV 0), (6, iV 0), (31, aggK key), (32, ptr b2 32), (34, ptr b2 33), (37, iV (idxS ((nuI tk : Nat) : Int) L : Int)), (39, iV ((idxS ((nuI tk : Nat) : Int) L : Int) + 1)), (42, iV (nuI tk : Int))]) (hOf [(0, ⟨false, b, q, 0, encs EntE L, 0⟩), (2, ⟨true, b2, 0, 40, [(key).map u8V, [iV next, .slice A n c]].flatten, 0⟩), (4, ⟨true, b4, 0, 40, [(List.replicate 32 0#8).map u8V, [iV 0, .slice none 0 0]].flatten, 0⟩)]) := by
      clear hG9_0 hG9_1 hG9_2 hG9_3 hG9_4 hG9_5 hG9_6 hG9_7 hG9_8 hG9_10 hG9_12 hG9_13 hG9_14 hG9_15 hG9_16
      refine hGo ?_
      refine At.bStep [3, 5] (by kernel_rfl) (by simp) ?_
      refine ⟨?_, ?_⟩
      ·
       refine At.bSQ (some 33) (Q_loadO (k := 2) rfl rfl Try.underlying3 rfl rfl (seg_get (i := 1) (p := 0) rfl LN rfl)) ?_
       exact At.into (hGi (hG9_9 )) rfl rfl
      ·
       refine At.bSQ (some 35) (Q_loadO (k := 2) rfl rfl Try.underlying38 rfl rfl (seg_get (i := 1) (p := 1) rfl LN rfl)) ?_
       exact At.into (hGi (hG9_11 )) rfl rfl
     have hG9_18  : G 8 #[true, false, true, true, true, true, false, true, true, true, false, false, false, false, false, false] (frOf [(4, ptr b4 0), (5, iV 0), (6, iV 0), (7, ptr b7 0), (30, ptr b2 0), (33, iV next), (35, .slice A n c), (37, iV (idxS ((nuI tk : Nat) : Int) L : Int)), (39, iV ((idxS ((nuI tk : Nat) : Int) L : Int) + 1))]) (hOf [(0, ⟨false, b, q, 0, encs EntE L, 0⟩), (2, ⟨true, b2, 0, 40, [(key).map u8V, [iV next, .slice A n c]].flatten, 0⟩), (4, ⟨true, b4, 0, 40, [(List.replicate 32 0#8).map u8V, [iV 0, .slice none 0 0]].flatten, 0⟩), (7, ⟨true, b7, 0, 3, [iV (nuI tk : Int)], 0⟩)]) := by
      clear hG9_0 hG9_1 hG9_2 hG9_3 hG9_4 hG9_5 hG9_6 hG9_7 hG9_9 hG9_10 hG9_11 hG9_14 hG9_15 hG9_16 hG9_17
      refine hGo ?_
      refine At.bStep [1, 6, 12] (by kernel_rfl) (by simp) ?_
      refine ⟨?_, ?_, ?_⟩
      ·
       refine At.bSQ (some 31) (Q_loadN (k := 2) (j := 0) (cs := (key).map u8V) rfl rfl Try.underlying23 rfl sz23 rfl rfl rfl (seg_at (i := 0) rfl LN LN) LN) ?_
       exact At.into (hGi (hG9_8 )) rfl rfl
      ·
       refine At.bS false (by kernel_rfl) (S_callV (some 36) [(0, _)] [36] (vs := [_]) rfl en58 rfl (VN (by simp) rfl View.all V0) (by simp) (c_CloneEn (L := L) (A := A) (n := n) (c := c) (b := b) (q := q) LN hA OG) (by rintro _ _ ⟨A36, b36, c36, g36a, g36b, rfl, rfl⟩; rfl) ?_)
       rintro _ _ ⟨A36, b36, c36, g36a, g36b, rfl, rfl⟩
       exact At.into (hGi (hG9_12 A36 b36 c36 g36a g36b)) rfl rfl
      ·
       refine At.bSQ (some 42) (Q_loadO (k := 7) rfl rfl Try.underlying3 rfl rfl rfl) ?_
       exact At.into (hGi (hG9_13 )) rfl rfl
     have hG9_19  : G 8 #[true, false, true, true, true, false, false, true, true, true, false, false, true, false, false, false] (frOf [(4, ptr b4 0), (5, iV 0), (6, iV 0), (30, ptr b2 0), (33, iV next), (34, ptr b2 33), (37, iV (idxS ((nuI tk : Nat) : Int) L : Int)), (39, iV ((idxS ((nuI tk : Nat) : Int) L : Int) + 1)), (42, iV (nuI tk : Int))]) (hOf [(0, ⟨false, b, q, 0, encs EntE L, 0⟩), (2, ⟨true, b2, 0, 40, [(key).map u8V, [iV next, .slice A n c]].flatten, 0⟩), (4, ⟨true, b4, 0, 40, [(List.replicate 32 0#8).map u8V, [iV 0, .slice none 0 0]].flatten, 0⟩)]) := by
      clear hG9_0 hG9_1 hG9_2 hG9_3 hG9_4 hG9_5 hG9_6 hG9_7 hG9_8 hG9_10 hG9_11 hG9_12 hG9_14 hG9_15 hG9_16 hG9_17 hG9_18
      refine hGo ?_
      refine At.bStep [1, 5] (by kernel_rfl) (by simp) ?_
      refine ⟨?_, ?_⟩
      ·
       refine At.bSQ (some 31) (Q_loadN (k := 2) (j := 0) (cs := (key).map u8V) rfl rfl Try.underlying23 rfl sz23 rfl rfl rfl (seg_at (i := 0) rfl LN LN) LN) ?_
       exact At.into (hGi (hG9_9 )) rfl rfl
      ·
       refine At.bSQ (some 35) (Q_loadO (k := 2) rfl rfl Try.underlying38 rfl rfl (seg_get (i := 1) (p := 1) rfl LN rfl)) ?_
       exact At.into (hGi (hG9_13 )) rfl rfl
     have hG9_20 (A36 : Option Addr) (b36 c36 : Nat) (g36a : 0 < c36 → A36 = some ⟨b36, 0, none⟩) (g36b : L.length ≤ c36) : G 8 #[true, false, true, false, true, true, true, true, true, true, false, false, false, false, false, false] (frOf [(4, ptr b4 0), (5, iV 0), (6, iV 0), (7, ptr b7 0), (30, ptr b2 0), (32, ptr b2 32), (36, .slice A36 L.length c36), (37, iV (idxS ((nuI tk : Nat) : Int) L : Int)), (39, iV ((idxS ((nuI tk : Nat) : Int) L : Int) + 1))]) (hOf [(0, ⟨false, b, q, 0, encs EntE L, 0⟩), (2, ⟨true, b2, 0, 40, [(key).map u8V, [iV next, .slice A n c]].flatten, 0⟩), (4, ⟨true, b4, 0, 40, [(List.replicate 32 0#8).map u8V, [iV 0, .slice none 0 0]].flatten, 0⟩), (7, ⟨true, b7, 0, 3, [iV (nuI tk : Int)], 0⟩), (36, ⟨true, b36, 0, 96, encs EntE L, (c36 - (L).length) * 33⟩)]) := by
      clear hG9_0 hG9_1 hG9_3 hG9_4 hG9_5 hG9_6 hG9_7 hG9_8 hG9_9 hG9_11 hG9_13 hG9_15 hG9_16 hG9_17 hG9_18 hG9_19
      refine hGo ?_
      refine At.bStep [1, 3, 10, 12] (by kernel_rfl) (by simp) ?_
      refine ⟨?_, ?_, ?_, ?_⟩
      ·
       refine At.bSQ (some 31) (Q_loadN (k := 2) (j := 0) (cs := (key).map u8V) rfl rfl Try.underlying23 rfl sz23 rfl rfl rfl (seg_at (i := 0) rfl LN LN) LN) ?_
       exact At.into (hGi (hG9_10 A36 b36 c36 g36a g36b)) rfl rfl
      ·
       refine At.bSQ (some 33) (Q_loadO (k := 2) rfl rfl Try.underlying3 rfl rfl (seg_get (i := 1) (p := 0) rfl LN rfl)) ?_
       exact At.into (hGi (hG9_12 A36 b36 c36 g36a g36b)) rfl rfl
      ·
       refine At.bS true (by kernel_rfl) (S_callR (some 40) [(36, _)] [] [36] (vs := [_, _, _]) rfl en59 rfl (ON rfl rfl O0) (by simp) V0 (by simp) (c_DelE (L := L) (A := A36) (c := c36) (b := b36) (i := (idxS ((nuI tk : Nat) : Int) L)) g36a OG OG) (by rintro _ _ ⟨rfl, rfl⟩; rfl) ?_)
       rintro _ _ ⟨rfl, rfl⟩
       have hle40 : (L.eraseIdx (idxS ((nuI tk : Nat) : Int) L)).length = L.length - 1 := by rw [List.length_eraseIdx, if_pos (by first | omega | (simp; omega))]
       refine At.bQ  1 (some 31) (Q_loadN (k := 2) (j := 0) (cs := (key).map u8V) rfl rfl Try.underlying23 rfl sz23 rfl rfl rfl (seg_at (i := 0) rfl LN LN) LN) (by kernel_rfl) (by kernel_rfl) ?_
       refine At.bQ  3 (some 33) (Q_loadO (k := 2) rfl rfl Try.underlying3 rfl rfl (seg_get (i := 1) (p := 0) rfl LN rfl)) (by kernel_rfl) (by kernel_rfl) ?_
       refine At.bP  11 (some 41) (P_build_struct (cs := ([(key).map u8V, [iV next, .slice (some ⟨b36, 0, none⟩) ((L.eraseIdx (idxS ((nuI tk : Nat) : Int) L)).length) c36]].flatten).toArray) (parts := _) (vs := [(0, _), (1, _), (2, _)]) rfl Try.underlying40 ze40 pl40 rfl (by show Instr.fill _ ([(List.replicate 32 0#8).map u8V, [iV 0], [.slice none 0 0]].flatten).toArray _ = _; refine fill_seg (k := 0) (vs := (key).map u8V) rfl rfl LN rfl LN LN ?_; refine fill_seg (k := 1) (vs := [iV next]) rfl rfl LN rfl LN LN ?_; refine fill_seg (k := 2) (vs := [.slice (some ⟨b36, 0, none⟩) ((L.eraseIdx (idxS ((nuI tk : Nat) : Int) L)).length) c36]) rfl rfl LN rfl LN LN ?_; exact fill_end (by simp))) (by kernel_rfl) (by kernel_rfl) ?_
       exact At.into (hGi (hG9_2 A36 b36 c36 g36a g36b)) rfl rfl
      ·
       refine At.bSQ (some 42) (Q_loadO (k := 7) rfl rfl Try.underlying3 rfl rfl rfl) ?_
       exact At.into (hGi (hG9_14 A36 b36 c36 g36a g36b)) rfl rfl
     have hG9_21  : G 8 #[true, false, true, false, true, true, false, true, true, true, false, false, true, false, false, false] (frOf [(4, ptr b4 0), (5, iV 0), (6, iV 0), (30, ptr b2 0), (32, ptr b2 32), (35, .slice A n c), (37, iV (idxS ((nuI tk : Nat) : Int) L : Int)), (39, iV ((idxS ((nuI tk : Nat) : Int) L : Int) + 1)), (42, iV (nuI tk : Int))]) (hOf [(0, ⟨false, b, q, 0, encs EntE L, 0⟩), (2, ⟨true, b2, 0, 40, [(key).map u8V, [iV next, .slice A n c]].flatten, 0⟩), (4, ⟨true, b4, 0, 40, [(List.replicate 32 0#8).map u8V, [iV 0, .slice none 0 0]].flatten, 0⟩)]) := by
      clear hG9_0 hG9_1 hG9_2 hG9_3 hG9_4 hG9_5 hG9_6 hG9_7 hG9_8 hG9_9 hG9_10 hG9_12 hG9_15 hG9_16 hG9_17 hG9_18 hG9_19 hG9_20
      refine hGo ?_
      refine At.bStep [1, 3, 6] (by kernel_rfl) (by simp) ?_
      refine ⟨?_, ?_, ?_⟩
      ·
       refine At.bSQ (some 31) (Q_loadN (k := 2) (j := 0) (cs := (key).map u8V) rfl rfl Try.underlying23 rfl sz23 rfl rfl rfl (seg_at (i := 0) rfl LN LN) LN) ?_
       exact At.into (hGi (hG9_11 )) rfl rfl
      ·
       refine At.bSQ (some 33) (Q_loadO (k := 2) rfl rfl Try.underlying3 rfl rfl (seg_get (i := 1) (p := 0) rfl LN rfl)) ?_
       exact At.into (hGi (hG9_13 )) rfl rfl
      ·
       refine At.bS false (by kernel_rfl) (S_callV (some 36) [(0, _)] [36] (vs := [_]) rfl en58 rfl (VN (by simp) rfl View.all V0) (by simp) (c_CloneEn (L := L) (A := A) (n := n) (c := c) (b := b) (q := q) LN hA OG) (by rintro _ _ ⟨A36, b36, c36, g36a, g36b, rfl, rfl⟩; rfl) ?_)
       rintro _ _ ⟨A36, b36, c36, g36a, g36b, rfl, rfl⟩
       exact At.into (hGi (hG9_14 A36 b36 c36 g36a g36b)) rfl rfl
     have hG9_22  : G 9 #[true, true, true, false, true, false, false, true, true, true, false, false, false, false, false, false] (frOf [(4, ptr b4 0), (5, iV 0), (6, iV 0), (7, ptr b7 0), (31, aggK key), (32, ptr b2 32), (34, ptr b2 33), (37, iV (idxS ((nuI tk : Nat) : Int) L : Int)), (39, iV ((idxS ((nuI tk : Nat) : Int) L : Int) + 1))]) (hOf [(0, ⟨false, b, q, 0, encs EntE L, 0⟩), (2, ⟨true, b2, 0, 40, [(key).map u8V, [iV next, .slice A n c]].flatten, 0⟩), (4, ⟨true, b4, 0, 40, [(List.replicate 32 0#8).map u8V, [iV 0, .slice none 0 0]].flatten, 0⟩), (7, ⟨true, b7, 0, 3, [iV (nuI tk : Int)], 0⟩)]) := by
      clear hG9_0 hG9_1 hG9_2 hG9_3 hG9_4 hG9_5 hG9_6 hG9_7 hG9_8 hG9_9 hG9_10 hG9_11 hG9_12 hG9_13 hG9_14 hG9_18 hG9_19 hG9_20 hG9_21
      refine hGo ?_
      refine At.bStep [3, 5, 12] (by kernel_rfl) (by simp) ?_
      refine ⟨?_, ?_, ?_⟩
      ·
       refine At.bSQ (some 33) (Q_loadO (k := 2) rfl rfl Try.underlying3 rfl rfl (seg_get (i := 1) (p := 0) rfl LN rfl)) ?_
       exact At.into (hGi (hG9_15 )) rfl rfl
      ·
       refine At.bSQ (some 35) (Q_loadO (k := 2) rfl rfl Try.underlying38 rfl rfl (seg_get (i := 1) (p := 1) rfl LN rfl)) ?_
       exact At.into (hGi (hG9_16 )) rfl rfl
      ·
       refine At.bSQ (some 42) (Q_loadO (k := 7) rfl rfl Try.underlying3 rfl rfl rfl) ?_
       exact At.into (hGi (hG9_17 )) rfl rfl
     have hG9_23  : G 9 #[true, false, true, true, true, false, false, true, true, true, false, false, false, false, false, false] (frOf [(4, ptr b4 0), (5, iV 0), (6, iV 0), (7, ptr b7 0), (30, ptr b2 0), (33, iV next), (34, ptr b2 33), (37, iV (idxS ((nuI tk : Nat) : Int) L : Int)), (39, iV ((idxS ((nuI tk : Nat) : Int) L : Int) + 1))]) (hOf [(0, ⟨false, b, q, 0, encs EntE L, 0⟩), (2, ⟨true, b2, 0, 40, [(key).map u8V, [iV next, .slice A n c]].flatten, 0⟩), (4, ⟨true, b4, 0, 40, [(List.replicate 32 0#8).map u8V, [iV 0, .slice none 0 0]].flatten, 0⟩), (7, ⟨true, b7, 0, 3, [iV (nuI tk : Int)], 0⟩)]) := by
      clear hG9_0 hG9_1 hG9_2 hG9_3 hG9_4 hG9_5 hG9_6 hG9_7 hG9_8 hG9_9 hG9_10 hG9_11 hG9_12 hG9_13 hG9_14 hG9_16 hG9_17 hG9_20 hG9_21 hG9_22
      refine hGo ?_
      refine At.bStep [1, 5, 12] (by kernel_rfl) (by simp) ?_
      refine ⟨?_, ?_, ?_⟩
      ·
       refine At.bSQ (some 31) (Q_loadN (k := 2) (j := 0) (cs := (key).map u8V) rfl rfl Try.underlying23 rfl sz23 rfl rfl rfl (seg_at (i := 0) rfl LN LN) LN) ?_
       exact At.into (hGi (hG9_15 )) rfl rfl
      ·
       refine At.bSQ (some 35) (Q_loadO (k := 2) rfl rfl Try.underlying38 rfl rfl (seg_get (i := 1) (p := 1) rfl LN rfl)) ?_
       exact At.into (hGi (hG9_18 )) rfl rfl
      ·
       refine At.bSQ (some 42) (Q_loadO (k := 7) rfl rfl Try.underlying3 rfl rfl rfl) ?_
       exact At.into (hGi (hG9_19 )) rfl rfl
     have hG9_24  : G 9 #[true, false, true, false, true, true, false, true, true, true, false, false, false, false, false, false] (frOf [(4, ptr b4 0), (5, iV 0), (6, iV 0), (7, ptr b7 0), (30, ptr b2 0), (32, ptr b2 32), (35, .slice A n c), (37, iV (idxS ((nuI tk : Nat) : Int) L : Int)), (39, iV ((idxS ((nuI tk : Nat) : Int) L : Int) + 1))]) (hOf [(0, ⟨false, b, q, 0, encs EntE L, 0⟩), (2, ⟨true, b2, 0, 40, [(key).map u8V, [iV next, .slice A n c]].flatten, 0⟩), (4, ⟨true, b4, 0, 40, [(List.replicate 32 0#8).map u8V, [iV 0, .slice none 0 0]].flatten, 0⟩), (7, ⟨true, b7, 0, 3, [iV (nuI tk : Int)], 0⟩)]) := by
      clear hG9_0 hG9_1 hG9_2 hG9_3 hG9_4 hG9_5 hG9_6 hG9_7 hG9_8 hG9_9 hG9_10 hG9_11 hG9_12 hG9_13 hG9_14 hG9_15 hG9_17 hG9_19 hG9_22 hG9_23
      refine hGo ?_
      refine At.bStep [1, 3, 6, 12] (by kernel_rfl) (by simp) ?_
      refine ⟨?_, ?_, ?_, ?_⟩
      ·
       refine At.bSQ (some 31) (Q_loadN (k := 2) (j := 0) (cs := (key).map u8V) rfl rfl Try.underlying23 rfl sz23 rfl rfl rfl (seg_at (i := 0) rfl LN LN) LN) ?_
       exact At.into (hGi (hG9_16 )) rfl rfl
      ·
       refine At.bSQ (some 33) (Q_loadO (k := 2) rfl rfl Try.underlying3 rfl rfl (seg_get (i := 1) (p := 0) rfl LN rfl)) ?_
       exact At.into (hGi (hG9_18 )) rfl rfl
      ·
       refine At.bS false (by kernel_rfl) (S_callV (some 36) [(0, _)] [36] (vs := [_]) rfl en58 rfl (VN (by simp) rfl View.all V0) (by simp) (c_CloneEn (L := L) (A := A) (n := n) (c := c) (b := b) (q := q) LN hA OG) (by rintro _ _ ⟨A36, b36, c36, g36a, g36b, rfl, rfl⟩; rfl) ?_)
       rintro _ _ ⟨A36, b36, c36, g36a, g36b, rfl, rfl⟩
       exact At.into (hGi (hG9_20 A36 b36 c36 g36a g36b)) rfl rfl
      ·
       refine At.bSQ (some 42) (Q_loadO (k := 7) rfl rfl Try.underlying3 rfl rfl rfl) ?_
       exact At.into (hGi (hG9_21 )) rfl rfl
     have hG9_25  : G 9 #[true, false, true, false, true, false, false, true, true, true, false, false, true, false, false, false] (frOf [(4, ptr b4 0), (5, iV 0), (6, iV 0), (30, ptr b2 0), (32, ptr b2 32), (34, ptr b2 33), (37, iV (idxS ((nuI tk : Nat) : Int) L : Int)), (39, iV ((idxS ((nuI tk : Nat) : Int) L : Int) + 1)), (42, iV (nuI tk : Int))]) (hOf [(0, ⟨false, b, q, 0, encs EntE L, 0⟩), (2, ⟨true, b2, 0, 40, [(key).map u8V, [iV next, .slice A n c]].flatten, 0⟩), (4, ⟨true, b4, 0, 40, [(List.replicate 32 0#8).map u8V, [iV 0, .slice none 0 0]].flatten, 0⟩)]) := by
      clear hG9_0 hG9_1 hG9_2 hG9_3 hG9_4 hG9_5 hG9_6 hG9_7 hG9_8 hG9_9 hG9_10 hG9_11 hG9_12 hG9_13 hG9_14 hG9_15 hG9_16 hG9_18 hG9_20 hG9_22 hG9_23 hG9_24
      refine hGo ?_
      refine At.bStep [1, 3, 5] (by kernel_rfl) (by simp) ?_
      refine ⟨?_, ?_, ?_⟩
      ·
       refine At.bSQ (some 31) (Q_loadN (k := 2) (j := 0) (cs := (key).map u8V) rfl rfl Try.underlying23 rfl sz23 rfl rfl rfl (seg_at (i := 0) rfl LN LN) LN) ?_
       exact At.into (hGi (hG9_17 )) rfl rfl
      ·
       refine At.bSQ (some 33) (Q_loadO (k := 2) rfl rfl Try.underlying3 rfl rfl (seg_get (i := 1) (p := 0) rfl LN rfl)) ?_
       exact At.into (hGi (hG9_19 )) rfl rfl
      ·
       refine At.bSQ (some 35) (Q_loadO (k := 2) rfl rfl Try.underlying38 rfl rfl (seg_get (i := 1) (p := 1) rfl LN rfl)) ?_
       exact At.into (hGi (hG9_21 )) rfl rfl
     have hG9_26  : G 10 #[true, false, true, false, true, false, false, true, true, true, false, false, false, false, false, false] (frOf [(4, ptr b4 0), (5, iV 0), (6, iV 0), (7, ptr b7 0), (30, ptr b2 0), (32, ptr b2 32), (34, ptr b2 33), (37, iV (idxS ((nuI tk : Nat) : Int) L : Int)), (39, iV ((idxS ((nuI tk : Nat) : Int) L : Int) + 1))]) (hOf [(0, ⟨false, b, q, 0, encs EntE L, 0⟩), (2, ⟨true, b2, 0, 40, [(key).map u8V, [iV next, .slice A n c]].flatten, 0⟩), (4, ⟨true, b4, 0, 40, [(List.replicate 32 0#8).map u8V, [iV 0, .slice none 0 0]].flatten, 0⟩), (7, ⟨true, b7, 0, 3, [iV (nuI tk : Int)], 0⟩)]) := by
      clear hG9_0 hG9_1 hG9_2 hG9_3 hG9_4 hG9_5 hG9_6 hG9_7 hG9_8 hG9_9 hG9_10 hG9_11 hG9_12 hG9_13 hG9_14 hG9_15 hG9_16 hG9_17 hG9_18 hG9_19 hG9_20 hG9_21
      refine hGo ?_
      refine At.bStep [1, 3, 5, 12] (by kernel_rfl) (by simp) ?_
      refine ⟨?_, ?_, ?_, ?_⟩
      ·
       refine At.bSQ (some 31) (Q_loadN (k := 2) (j := 0) (cs := (key).map u8V) rfl rfl Try.underlying23 rfl sz23 rfl rfl rfl (seg_at (i := 0) rfl LN LN) LN) ?_
       exact At.into (hGi (hG9_22 )) rfl rfl
      ·
       refine At.bSQ (some 33) (Q_loadO (k := 2) rfl rfl Try.underlying3 rfl rfl (seg_get (i := 1) (p := 0) rfl LN rfl)) ?_
       exact At.into (hGi (hG9_23 )) rfl rfl
      ·
       refine At.bSQ (some 35) (Q_loadO (k := 2) rfl rfl Try.underlying38 rfl rfl (seg_get (i := 1) (p := 1) rfl LN rfl)) ?_
       exact At.into (hGi (hG9_24 )) rfl rfl
      ·
       refine At.bSQ (some 42) (Q_loadO (k := 7) rfl rfl Try.underlying3 rfl rfl rfl) ?_
       exact At.into (hGi (hG9_25 )) rfl rfl
     clear hG9_0 hG9_1 hG9_2 hG9_3 hG9_4 hG9_5 hG9_6 hG9_7 hG9_8 hG9_9 hG9_10 hG9_11 hG9_12 hG9_13 hG9_14 hG9_15 hG9_16 hG9_17 hG9_18 hG9_19 hG9_20 hG9_21 hG9_22 hG9_23 hG9_24 hG9_25
     refine hGo ?_
     refine At.bP  0 (some 30) (P_fieldAddr0 (off := 0) rfl Try.underlying40 rfl sz23 rfl rfl) (by kernel_rfl) (by kernel_rfl) ?_
     refine At.bP  2 (some 32) (P_fieldAddr0 (off := 32) rfl Try.underlying40 rfl sz3 rfl rfl) (by kernel_rfl) (by kernel_rfl) ?_
     refine At.bP  4 (some 34) (P_fieldAddr0 (off := 33) rfl Try.underlying40 rfl sz38 rfl rfl) (by kernel_rfl) (by kernel_rfl) ?_
     refine At.bP  7 (some 37) (P_move rfl rfl) (by kernel_rfl) (by kernel_rfl) ?_
     refine At.bP  8 (some 38) (P_move rfl rfl) (by kernel_rfl) (by kernel_rfl) ?_
     refine At.bP  9 (some 39) (P_add_i rfl rfl rfl (by omega)) (by kernel_rfl) (by kernel_rfl) ?_
     exact At.into (hGi (hG9_26 )) rfl rfl
    ·
     rintro fr H ⟨A36, b36, c36, rfl, rfl, g36a, g36b, -⟩
     refine At.next ?_
     refine At.ret ?_
     have z5 := usE_0 (key := key) e12 e21 q1
     obtain ⟨z1, z2, z3, z4⟩ := us_t z5
     have hle := List.length_eraseIdx_le L (idxS ((nuI tk : Nat) : Int) L)
     refine At.giveV (.inl rfl) [36] (rows' := [_]) (ResV.three rfl (ResOne.cellA (k := 4) rfl Try.underlying40 rfl sz40 LN rfl) (ResOne.tmp rfl) (ResOne.tmp rfl)) rfl (by simp) (by simp) ?_
     exact ⟨(some ⟨b36, 0, none⟩), b36, c36, (fun _ => rfl), (by simp only [z1, z2, z3, z4, z5]; first | omega | exact Nat.le_refl _ | (simp; done) | (simp <;> omega)), (by first | (rw [z1, z2, z3, z4, z5]; try rfl; done) | (rw [← z1, ← z2, ← z3, ← z4, ← z5]; try rfl; done) | (simp only [z1, z2, z3, z4, z5]; try rfl; done) | (simp only [← z1, ← z2, ← z3, ← z4, ← z5]; try rfl; done) | rfl), (by first | (rw [z1, z2, z3, z4, z5]; try rfl; done) | (rw [← z1, ← z2, ← z3, ← z4, ← z5]; try rfl; done) | (simp only [z1, z2, z3, z4, z5]; try rfl; done) | (simp only [← z1, ← z2, ← z3, ← z4, ← z5]; try rfl; done) | rfl)⟩

set_option maxHeartbeats 2000000 in
theorem c_KnownN {key : List (BitVec 8)} {next : Int} {L : List Ent} {A : Option Addr} {n c b q : Nat} (hkey : key.length = 32) (hL : L.length = n) (hA : 0 < n → A = some ⟨b, q, none⟩) (hc : n ≤ c) :
  Con Try.prog 31 [.agg ([(key).map u8V, [iV next, .slice A n c]].flatten).toArray] [⟨false, b, q, 0, encs EntE L, 0⟩] (fun v rs => ∃ (A' : Option Addr) (c' : Nat), v = .slice A' (knN next L) c' ∧ rs = []) := by
 refine Con.enter Try.func31 Try.ntmps31 (Nat.le_of_ble_eq_true rfl) rfl fun w => ?_
 refine At.seq ?_
 refine At.region ?_
 refine At.s (S_box (some 1) 1 (zs := [(key).map u8V, [iV next, .slice A n c]].flatten) rfl rfl rfl (fun b1 => ?_))
 refine At.p (some 2) (P_assign rfl rfl) ?_
 refine At.nil ?_
 refine At.next ?_
 refine At.seq ?_
 refine At.seq ?_
 refine At.region ?_
 refine At.q (some 6) (Q_loadA (k := 1) rfl rfl Try.underlying40 rfl sz40 LN rfl) ?_
 refine At.s (S_callV (some 7) [(0, _)] [] (vs := [_]) rfl en32 rfl (VN (by simp) rfl View.all V0) (by simp) (c_TRight (key := key) (next := next) (L := L) (A := A) (n := n) (c := c) (b := b) (q := q) LN LN hA OG) (by rintro _ _ ⟨rfl, rfl⟩; rfl) ?_)
 rintro _ _ ⟨rfl, rfl⟩
 refine At.p (some 8) (P_not rfl rfl) ?_
 refine At.nil ?_
 refine At.next ?_
 refine At.cond rfl (fun h8 => ?_) (fun h8 => ?_)
 · -- cond 8 t
  have e8 : rightT next L = false := (by first | (simp; done) | simpa using h8)
  refine At.seq ?_
  refine At.region ?_
  refine At.p (some 2) (P_assign rfl rfl) ?_
  refine At.nil ?_
  refine At.next ?_
  refine At.ret ?_
  refine At.thn_r ?_
  refine At.give (.inl rfl) [] (rows' := []) (vs := [_]) rfl ⟨rfl, trivial⟩ rfl (by simp) (by simp) ⟨none, 0, by rw [kn_f e8]; rfl, rfl⟩
 · -- cond 8 f
  have e8 : rightT next L = true := (by first | (simp; done) | simpa using h8)
  refine At.skip ?_
  refine At.next ?_
  refine At.seq ?_
  refine At.region ?_
  refine At.p (some 3) (P_assign rfl rfl) ?_
  refine At.nil ?_
  refine At.next ?_
  refine At.seq ?_
  refine At.seq ?_
  refine At.region ?_
  refine At.p (some 9) (P_fieldAddr0 (off := 33) rfl Try.underlying40 rfl sz38 rfl rfl) ?_
  refine At.q (some 10) (Q_loadO (k := 1) rfl rfl Try.underlying38 rfl rfl (seg_get (i := 1) (p := 1) rfl LN rfl)) ?_
  refine At.p (some 11) (P_len_sl rfl rfl ⟨_, Try.underlying38⟩ rfl) ?_
  refine At.p (some 12) (P_move rfl rfl) ?_
  refine At.nil ?_
  refine At.next ?_
  refine At.block ?_
  refine At.empty 3 0 64 ?_
  refine At.loopx (I := fun m fr H => ∃ (k : Nat) (ks : List Kn) (A3 : Option Addr) (b3 c3 : Nat), m = n - k ∧ fr = frOf [(0, .agg ([(key).map u8V, [iV next, .slice A n c]].flatten).toArray), (1, ptr b1 0), (2, .slice none 0 0), (3, .slice A3 ks.length c3), (6, .agg ([(key).map u8V, [iV next, .slice A n c]].flatten).toArray), (7, .bool (rightT next L)), (8, .bool (!(rightT next L))), (9, ptr b1 33), (10, .slice A n c), (11, iV (n : Int)), (12, iV (k : Int))] ∧ H = hOf [(0, ⟨false, b, q, 0, encs EntE L, 0⟩), (1, ⟨true, b1, 0, 40, [(key).map u8V, [iV next, .slice A n c]].flatten, 0⟩), (3, ⟨true, b3, 0, 64, encs KnE ks, (c3 - (ks).length) * 33⟩)] ∧ (0 < c3 → A3 = some ⟨b3, 0, none⟩) ∧ (ks.length ≤ c3) ∧ (k ≤ n) ∧ (ks.length = k)) ?_ ?_
  ·
   intro Kc0 hKc0
   refine At.to [(0, _), (1, _), (2, _), (3, _), (6, _), (7, _), (8, _), (9, _), (10, _), (11, _), (12, _)] [(0, _), (1, _), (3, _)] (AllL.cons_ (rfl) (AllL.cons_ (rfl) (AllL.cons_ (rfl) (AllL.cons_ (rfl) (AllL.cons_ (rfl) (AllL.cons_ (rfl) (AllL.cons_ (rfl) (AllL.cons_ (rfl) (AllL.cons_ (rfl) (AllL.cons_ (rfl) (AllL.cons_ (rfl) trivial))))))))))) (AllL.cons_ (rfl) (AllL.cons_ (rfl) (AllL.cons_ (rfl) trivial))) ?_
   exact hKc0 _ _ _ ⟨0, ([] : List Kn), none, 0, 0, rfl, rfl, rfl, (fun h => absurd h (Nat.lt_irrefl 0)), (by first | exact Nat.le_refl _ | omega | (simp; done)), (by omega), rfl⟩
  ·
   rintro m fr H ⟨k, ks, A3, b3, c3, rfl, rfl, rfl, g3a, g3b, hk, hks⟩ Kc0 hKc0
   have hr8 := rt_t e8
   refine At.seq ?_
   refine At.region ?_
   refine At.p (some 13) (P_cmp rfl rfl rfl rfl rfl rfl) ?_
   refine At.nil ?_
   refine At.next ?_
   refine At.seq ?_
   refine At.cond rfl (fun h13 => ?_) (fun h13 => ?_)
   · -- cond 13 t
    have e13 : (k : Int) < (n : Int) := of_decide_eq_true h13
    refine At.skip ?_
    refine At.next ?_
    refine At.seq ?_
    refine At.block ?_
    refine At.seq ?_
    refine At.region ?_
    refine At.p (some 14) (P_indexAddr_sl (b := b) (m := q) (j := k) rfl Try.underlying38 sz96 rfl (hA OG) rfl RO OG) ?_
    have enf15 := Ent.hp (L.getD k default)
    refine At.q (some 15) (Q_loadEN (en := EntE) (k := 0) (j := k) (p := 0) (L := L) (cs := [[iV ((L.getD k default).id)], ((L.getD k default).psk).map u8V].flatten) (sz := 33) default rfl rfl rfl Try.underlying96 rfl sz96 rfl OG OG (List.take_of_length_le (Nat.le_of_eq (Enc.len _ _))) LN (by decide)) ?_
    refine At.s (S_alloc (some 5) 5 (zs := [[iV 0], (List.replicate 32 0#8).map u8V].flatten) rfl ze96 rfl (fun b5 => ?_))
    refine At.s (S_storeA none (k := 5) (vs := [[iV ((L.getD k default).id)], ((L.getD k default).psk).map u8V].flatten) rfl rfl rfl (by rw [sz96]; exact congrArg some LN) rfl (one_flatc (one_cons rfl one_nil) (one_flatc (one_map (fun _ => rfl)) one_flat0)) NG rfl LN ?_)
    refine At.nil ?_
    refine At.next ?_
    refine At.draws 9 [] [.q false [0, 1, 2, 3, 5, 6], .e false 4, .q false [7], .e false 8] (by kernel_rfl) (by kernel_rfl) ?_
    refine At.wp (some 16) (P_move rfl rfl) ?_
    refine At.wq (some 17) (Q_loadA (k := 1) rfl rfl Try.underlying40 rfl sz40 LN rfl) ?_
    refine At.wp (some 18) (P_fieldAddr0 (off := 0) rfl Try.underlying96 rfl sz3 rfl rfl) ?_
    refine At.wq (some 19) (Q_loadO (k := 5) rfl rfl Try.underlying3 rfl rfl (seg_get (i := 0) (p := 0) rfl LN rfl)) ?_
    refine At.wp (some 21) (P_fieldAddr0 (off := 1) rfl Try.underlying96 rfl sz23 rfl rfl) ?_
    refine At.wq (some 22) (Q_loadN (k := 5) (j := 1) (cs := ((L.getD k default).psk).map u8V) rfl rfl Try.underlying23 rfl sz23 rfl rfl rfl (seg_at (i := 1) rfl LN LN) LN) ?_
    refine At.wqn ?_
    refine At.we ?_
    refine SStep.up (S_callV (some 20) [(0, _)] [20] (vs := [_, _]) rfl en36 rfl (VN (by simp) rfl View.all V0) (by simp) (c_TText (key := key) (next := next) (L := L) (A := A) (n := n) (c := c) (b := b) (q := q) (id := ((L.getD k default).id)) LN LN hA OG) (by rintro _ _ ⟨A20, b20, c20, g20a, g20b, rfl, rfl⟩; rfl) ?_)
    rintro _ _ ⟨A20, b20, c20, g20a, g20b, rfl, rfl⟩
    have := tk_le key ((L.getD k default).id)
    refine At.wp (some 23) (P_build_struct (cs := ([[.slice A20 ((tkT key ((L.getD k default).id)).length) c20], ((L.getD k default).psk).map u8V].flatten).toArray) (parts := _) (vs := [(0, _), (1, _)]) rfl Try.underlying64 ze64 pl64 rfl (by show Instr.fill _ ([[.slice none 0 0], (List.replicate 32 0#8).map u8V].flatten).toArray _ = _; refine fill_seg (k := 0) (vs := [.slice A20 ((tkT key ((L.getD k default).id)).length) c20]) rfl rfl LN rfl LN LN ?_; refine fill_seg (k := 1) (vs := ((L.getD k default).psk).map u8V) rfl rfl LN rfl LN LN ?_; exact fill_end (by simp))) ?_
    refine At.wqn ?_
    refine At.we ?_
    refine S_buildSliceE (some 24) 24 (cs := [[.slice A20 ((tkT key ((L.getD k default).id)).length) c20], ((L.getD k default).psk).map u8V].flatten) rfl Try.underlying60 sz64 ze64 rfl rfl LN (by decide) (by decide) (fun b24 => ?_)
    refine At.row 24 (⟨true, b24, 0, 64, encs KnE [mkKn (BE.mk A20 b20 c20 (tkT key ((L.getD k default).id))) ((L.getD k default).psk)], 0⟩) rfl (kn_row (tk := (BE.mk A20 b20 c20 (tkT key ((L.getD k default).id)))) LN) ?_
    refine At.wt rfl ?_
    refine At.s (S_appendE (en := KnE) (some 25) 3 ((ks ++ [mkKn (BE.mk A20 b20 c20 (tkT key ((L.getD k default).id))) ((L.getD k default).psk)])) (l := ks) (L := [mkKn (BE.mk A20 b20 c20 (tkT key ((L.getD k default).id))) ((L.getD k default).psk)]) (m := 1) (sz := 33) rfl rfl Try.underlying60 Try.underlying60 (.inr ⟨_, rfl⟩) sz64 by64 ze64 rfl rfl (fun h => ⟨g3a h, rfl⟩) LN OG OG (SrcE.all (en := KnE) (k := 24) (L := [mkKn (BE.mk A20 b20 c20 (tkT key ((L.getD k default).id))) ((L.getD k default).psk)]) rfl rfl (fun _ => rfl) (fun _ => ⟨rfl, rfl, rfl⟩) LN) OG OG rfl LN ?_)
    intro A25 b25 c25 g25a g25b
    refine At.p (some 3) (P_assign rfl rfl) ?_
    refine At.nil ?_
    refine At.inb_n ?_
    refine At.next ?_
    refine At.region ?_
    refine At.p (some 26) (P_add_i rfl rfl rfl (by omega)) ?_
    refine At.p (some 12) (P_move rfl rfl) ?_
    refine At.nil ?_
    refine At.next ?_
    refine At.to [(0, _), (1, _), (2, _), (3, _), (6, _), (7, _), (8, _), (9, _), (10, _), (11, _), (12, _)] [(0, _), (1, _), (3, _)] (AllL.cons_ (rfl) (AllL.cons_ (rfl) (AllL.cons_ (rfl) (AllL.cons_ (rfl) (AllL.cons_ (rfl) (AllL.cons_ (rfl) (AllL.cons_ (rfl) (AllL.cons_ (rfl) (AllL.cons_ (rfl) (AllL.cons_ (rfl) (AllL.cons_ (rfl) trivial))))))))))) (AllL.cons_ (rfl) (AllL.cons_ (rfl) (AllL.cons_ (rfl) trivial))) ?_
    exact hKc0 _ _ _ (by omega) ⟨k + 1, (ks ++ [mkKn (BE.mk A20 b20 c20 (tkT key ((L.getD k default).id))) ((L.getD k default).psk)]), A25, b25, c25, rfl, rfl, rfl, g25a, (by first | omega | (simp; done) | (simp <;> omega) | exact Nat.le_refl _), (by omega), (by rw [List.length_append, hks]; rfl)⟩
   · -- cond 13 f
    have e13 : ¬ (k : Int) < (n : Int) := of_decide_eq_false h13
    refine At.exit ?_
    refine At.thn_e ?_
    refine At.thn_e ?_
    refine At.inb_hit ?_
    refine At.next ?_
    refine At.seq ?_
    refine At.region ?_
    refine At.p (some 27) (P_move rfl rfl) ?_
    refine At.p (some 2) (P_assign rfl rfl) ?_
    refine At.nil ?_
    refine At.next ?_
    refine At.ret ?_
    refine At.give (.inl rfl) [] (rows' := []) (vs := [_]) rfl ⟨rfl, trivial⟩ rfl (by simp) (by simp) ⟨A3, c3, by rw [kn_t e8, show L.length = ks.length by omega]; rfl, rfl⟩


end Go.Proofs.Ytihciioopdalnaa

