import Derived.Test.YtihciioopdalnaaTK2
namespace Go.Proofs.Ytihciioopdalnaa
set_option maxRecDepth 20000
set_option linter.unusedVariables false
set_option linter.unusedSimpArgs false
open Go.SE Go.RowKit
attribute [local irreducible] macS sumS
theorem ent_ext {a b : Ent} (h1 : a.id = b.id) (h2 : a.psk = b.psk) : a = b := by
 cases a; cases b; simp at h1 h2; subst h1 h2; rfl
theorem take_go {L M : List Ent} {i : Nat} (h : L.take i = M.take i) (hL : i < L.length) (hM : i < M.length) (he : L.getD i default = M.getD i default) : L.take (i + 1) = M.take (i + 1) := by
 rw [List.take_succ_eq_append_getElem hL, List.take_succ_eq_append_getElem hM, h]
 simp [List.getD_eq_getElem?_getD, hL, hM] at he
 rw [he]
theorem take_add {L : List Ent} {i : Nat} (h : i < L.length) : L.take i ++ [L.getD i default] = L.take (i + 1) := by
 rw [List.take_succ_eq_append_getElem h]
 simp [List.getD_eq_getElem?_getD, h]
def saB (ka : List (BitVec 8)) (na : Int) (la : List Ent) (kb : List (BitVec 8)) (nb : Int) (lb : List Ent) : Bool := ka == kb && (decide (na = nb) && decide (la.map (fun e => (e.id, e.psk)) = lb.map fun e => (e.id, e.psk)))
theorem pair_inj : ∀ {a b : List Ent}, a.map (fun e => (e.id, e.psk)) = b.map (fun e => (e.id, e.psk)) → a = b
 | [], [], _ => rfl
 | x :: a, y :: b, h => by
  simp only [List.map_cons, List.cons.injEq, Prod.mk.injEq] at h
  rw [ent_ext h.1.1 h.1.2, pair_inj h.2]
 | [], _ :: _, h => by simp at h
 | _ :: _, [], h => by simp at h
theorem sa_t {ka : List (BitVec 8)} {na : Int} {la : List Ent} {kb : List (BitVec 8)} {nb : Int} {lb : List Ent} (h1 : ka = kb) (h2 : na = nb) (h3 : la = lb) : saB ka na la kb nb lb = true := by subst h1 h2 h3; simp [saB]
theorem sa_f {ka : List (BitVec 8)} {na : Int} {la : List Ent} {kb : List (BitVec 8)} {nb : Int} {lb : List Ent} (h : ¬ (ka = kb ∧ na = nb ∧ la = lb)) : saB ka na la kb nb lb = false := by
 cases hs : saB ka na la kb nb lb with
 | false => rfl
 | true =>
  exfalso
  unfold saB at hs
  simp only [Bool.and_eq_true, beq_iff_eq, decide_eq_true_eq] at hs
  exact h ⟨hs.1, hs.2.1, pair_inj hs.2.2⟩
theorem ent_mem {L : List Ent} {i : Nat} (h : i < L.length) : L.getD i default ∈ L := by
 rw [List.getD_eq_getElem?_getD, List.getElem?_eq_getElem h]
 exact List.getElem_mem h

attribute [local irreducible] tkT rightT risB lastId
attribute [local irreducible] saB
set_option maxHeartbeats 2000000 in
theorem c_from {key : List (BitVec 8)} {next : Int} {L : List Ent} {A : Option Addr} {n c b q : Nat} (hkey : key.length = 32) (hL : L.length = n) (hA : 0 < n → A = some ⟨b, q, none⟩) (hc : n ≤ c) (hn : n ≤ 3518437208780) :
  Con Try.prog 25 [.agg ([(key).map u8V, [iV next, .slice A n c]].flatten).toArray] [⟨false, b, q, 0, encs EntE L, 0⟩] (fun v rs => ∃ (A' : Option Addr) (b' c' : Nat), (0 < c' → A' = some ⟨b', 0, none⟩) ∧ L.length ≤ c' ∧ v = .agg ([(key).map u8V, [iV next, .slice A' L.length c']].flatten).toArray ∧ rs = [⟨true, b', 0, 55, encs EntE L, (c' - (L).length) * 33⟩]) := by
 refine Con.enter Try.func25 Try.ntmps25 (Nat.le_of_ble_eq_true rfl) rfl fun w => ?_
 refine At.seq ?_
 refine At.region ?_
 refine At.s (S_box (some 1) 1 (zs := [(key).map u8V, [iV next, .slice A n c]].flatten) rfl rfl rfl (fun b1 => ?_))
 refine At.s (S_alloc (some 2) 2 (zs := [(List.replicate 32 0#8).map u8V, [iV 0, .slice none 0 0]].flatten) rfl ze44 rfl (fun b2 => ?_))
 refine At.nil ?_
 refine At.next ?_
 refine At.seq ?_
 refine At.region ?_
 refine At.p (some 5) (P_fieldAddr0 (off := 0) rfl Try.underlying40 rfl sz23 rfl rfl) ?_
 refine At.q (some 6) (Q_loadN (k := 1) (j := 0) (cs := (key).map u8V) rfl rfl Try.underlying23 rfl sz23 rfl rfl rfl (seg_at (i := 0) rfl LN LN) LN) ?_
 refine At.p (some 7) (P_fieldAddr0 (off := 32) rfl Try.underlying40 rfl sz3 rfl rfl) ?_
 refine At.q (some 8) (Q_loadO (k := 1) rfl rfl Try.underlying3 rfl rfl (seg_get (i := 1) (p := 0) rfl LN rfl)) ?_
 refine At.p (some 9) (P_build_struct (cs := ([(key).map u8V, [iV next, .slice none 0 0]].flatten).toArray) (parts := _) (vs := [(0, _), (1, _)]) rfl Try.underlying44 ze44 pl44 rfl (by show Instr.fill _ ([(List.replicate 32 0#8).map u8V, [iV 0], [.slice none 0 0]].flatten).toArray _ = _; refine fill_seg (k := 0) (vs := (key).map u8V) rfl rfl LN rfl LN LN ?_; refine fill_seg (k := 1) (vs := [iV next]) rfl rfl LN rfl LN LN ?_; exact fill_end (by simp))) ?_
 refine At.s (S_alloc (some 3) 3 (zs := [(List.replicate 32 0#8).map u8V, [iV 0, .slice none 0 0]].flatten) rfl ze44 rfl (fun b3 => ?_))
 refine At.s (S_storeA none (k := 3) (vs := [(key).map u8V, [iV next, .slice none 0 0]].flatten) rfl rfl rfl (by rw [sz44]; exact congrArg some LN) rfl (one_flatc (one_map (fun _ => rfl)) (one_flatc (one_cons rfl (one_cons rfl one_nil)) one_flat0)) NG rfl LN ?_)
 refine At.nil ?_
 refine At.next ?_
 refine At.seq ?_
 refine At.seq ?_
 refine At.region ?_
 refine At.p (some 4) (P_assign rfl rfl) ?_
 refine At.nil ?_
 refine At.next ?_
 refine At.block ?_
 refine At.empty 83 0 55 ?_
 refine At.loopx (I := fun m fr H => ∃ (i : Nat) (A83 : Option Addr) (b83 c83 : Nat), m = n - i ∧ fr = frOf [(0, .agg ([(key).map u8V, [iV next, .slice A n c]].flatten).toArray), (1, ptr b1 0), (2, ptr b2 0), (3, ptr b3 0), (4, iV (i : Int)), (5, ptr b1 0), (6, aggK key), (7, ptr b1 32), (8, iV next), (9, .agg ([(key).map u8V, [iV next, .slice none 0 0]].flatten).toArray)] ∧ H = hOf [(0, ⟨false, b, q, 0, encs EntE L, 0⟩), (1, ⟨true, b1, 0, 40, [(key).map u8V, [iV next, .slice A n c]].flatten, 0⟩), (2, ⟨true, b2, 0, 44, [(List.replicate 32 0#8).map u8V, [iV 0, .slice none 0 0]].flatten, 0⟩), (3, ⟨true, b3, 0, 44, [(key).map u8V, [iV next, .slice A83 ((L.take i).length) c83]].flatten, 0⟩), (83, ⟨true, b83, 0, 55, encs EntE (L.take i), (c83 - ((L.take i)).length) * 33⟩)] ∧ (i ≤ n) ∧ (0 < c83 → A83 = some ⟨b83, 0, none⟩) ∧ ((L.take i).length ≤ c83)) ?_ ?_
 ·
  intro Kc0 hKc0
  refine At.to [(0, _), (1, _), (2, _), (3, _), (4, _), (5, _), (6, _), (7, _), (8, _), (9, _)] [(0, _), (1, _), (2, _), (3, ⟨true, b3, 0, 44, [(key).map u8V, [iV next, .slice none ((L.take 0).length) 0]].flatten, 0⟩), (83, ⟨true, 0, 0, 55, encs EntE (L.take 0), (0 - ((L.take 0)).length) * 33⟩)] (AllL.cons_ (rfl) (AllL.cons_ (rfl) (AllL.cons_ (rfl) (AllL.cons_ (rfl) (AllL.cons_ (rfl) (AllL.cons_ (rfl) (AllL.cons_ (rfl) (AllL.cons_ (rfl) (AllL.cons_ (rfl) (AllL.cons_ (rfl) trivial)))))))))) (AllL.cons_ (rfl) (AllL.cons_ (rfl) (AllL.cons_ (rfl) (AllL.cons_ (rfl) (AllL.cons_ (rfl) trivial))))) ?_
  exact hKc0 _ _ _ ⟨0, none, 0, 0, rfl, rfl, rfl, (by omega), (fun h => absurd h (Nat.lt_irrefl 0)), (Nat.le_refl _)⟩
 ·
  rintro m fr H ⟨i, A83, b83, c83, rfl, rfl, rfl, hi, g83a, g83b⟩ Kc0 hKc0
  have hlt : (L.take i).length = i := by rw [List.length_take]; omega
  refine At.seq ?_
  refine At.seq ?_
  refine At.region ?_
  refine At.p (some 10) (P_move rfl rfl) ?_
  refine At.p (some 11) (P_fieldAddr0 (off := 33) rfl Try.underlying40 rfl sz38 rfl rfl) ?_
  refine At.q (some 12) (Q_loadO (k := 1) rfl rfl Try.underlying38 rfl rfl (seg_get (i := 1) (p := 1) rfl LN rfl)) ?_
  refine At.p (some 13) (P_len_sl rfl rfl ⟨_, Try.underlying38⟩ rfl) ?_
  refine At.p (some 14) (P_cmp rfl rfl rfl rfl rfl rfl) ?_
  refine At.nil ?_
  refine At.next ?_
  refine At.cond rfl (fun h14 => ?_) (fun h14 => ?_)
  · -- cond 14 t
   have e14 : (i : Int) < (n : Int) := of_decide_eq_true h14
   refine At.skip ?_
   refine At.next ?_
   refine At.seq ?_
   refine At.block ?_
   refine At.draws 16 [] [.q false [0, 1, 2, 3, 4, 5, 6, 7, 8, 9, 10, 11, 12, 13, 14], .e false 15] (by kernel_rfl) (by kernel_rfl) ?_
   refine At.wp (some 17) (P_fieldAddr0 (off := 33) rfl Try.underlying44 rfl sz42 rfl rfl) ?_
   refine At.wq (some 18) (Q_loadO (k := 3) rfl rfl Try.underlying42 rfl rfl (seg_get (i := 1) (p := 1) rfl LN rfl)) ?_
   refine At.wp (some 19) (P_fieldAddr0 (off := 33) rfl Try.underlying40 rfl sz38 rfl rfl) ?_
   refine At.wq (some 20) (Q_loadO (k := 1) rfl rfl Try.underlying38 rfl rfl (seg_get (i := 1) (p := 1) rfl LN rfl)) ?_
   refine At.wp (some 21) (P_move rfl rfl) ?_
   refine At.wp (some 22) (P_indexAddr_sl (b := b) (m := q) (j := i) rfl Try.underlying38 sz96 rfl (hA OG) rfl RO OG) ?_
   refine At.wp (some 23) (P_fieldAddr (off := 0) rfl Try.underlying96 rfl sz3 rfl rfl) ?_
   have enf24 := Ent.hp (L.getD i default)
   refine At.wq (some 24) (Q_loadE1 (en := EntE) (k := 0) (j := i) (p := 0) (L := L) (v := iV ((L.getD i default).id)) (sz := 33) default rfl rfl rfl Try.underlying3 rfl rfl OG OG rfl) ?_
   refine At.wp (some 25) (P_fieldAddr0 (off := 33) rfl Try.underlying40 rfl sz38 rfl rfl) ?_
   refine At.wq (some 26) (Q_loadO (k := 1) rfl rfl Try.underlying38 rfl rfl (seg_get (i := 1) (p := 1) rfl LN rfl)) ?_
   refine At.wp (some 27) (P_move rfl rfl) ?_
   refine At.wp (some 28) (P_indexAddr_sl (b := b) (m := q) (j := i) rfl Try.underlying38 sz96 rfl (hA OG) rfl RO OG) ?_
   refine At.wp (some 29) (P_fieldAddr (off := 1) rfl Try.underlying96 rfl sz23 rfl rfl) ?_
   refine At.wq (some 30) (Q_loadEN (en := EntE) (k := 0) (j := i) (p := 1) (L := L) (cs := ((L.getD i default).psk).map u8V) (sz := 33) default rfl rfl rfl Try.underlying23 rfl sz23 rfl OG OG (seg_at (i := 1) rfl LN LN) LN (by decide)) ?_
   refine At.wp (some 31) (P_build_struct (cs := ([[iV ((L.getD i default).id)], ((L.getD i default).psk).map u8V].flatten).toArray) (parts := _) (vs := [(0, _), (1, _)]) rfl Try.underlying55 ze55 pl55 rfl (by show Instr.fill _ ([[iV 0], (List.replicate 32 0#8).map u8V].flatten).toArray _ = _; refine fill_seg (k := 0) (vs := [iV ((L.getD i default).id)]) rfl rfl LN rfl LN LN ?_; refine fill_seg (k := 1) (vs := ((L.getD i default).psk).map u8V) rfl rfl LN rfl LN LN ?_; exact fill_end (by simp))) ?_
   refine At.wqn ?_
   refine At.we ?_
   refine S_buildSliceE (some 32) 32 (cs := [[iV ((L.getD i default).id)], ((L.getD i default).psk).map u8V].flatten) rfl Try.underlying42 sz55 ze55 rfl rfl LN (by decide) (by decide) (fun b32 => ?_)
   refine At.row 32 (⟨true, b32, 0, 55, encs EntE [(L.getD i default)], 0⟩) rfl (ent_self _) ?_
   refine At.wt rfl ?_
   refine At.s (S_appendE (en := EntE) (some 33) 83 (((L.take i) ++ [(L.getD i default)])) (l := (L.take i)) (L := [(L.getD i default)]) (m := 1) (sz := 33) rfl rfl Try.underlying42 Try.underlying42 (.inr ⟨_, rfl⟩) sz55 by55 ze55 rfl rfl (fun h => ⟨g83a h, rfl⟩) LN OG OG (SrcE.all (en := EntE) (k := 32) (L := [(L.getD i default)]) rfl rfl (fun _ => rfl) (fun _ => ⟨rfl, rfl, rfl⟩) LN) OG OG rfl LN ?_)
   intro A33 b33 c33 g33a g33b
   refine At.p (some 34) (P_fieldAddr0 (off := 33) rfl Try.underlying44 rfl sz42 rfl rfl) ?_
   refine At.s (S_store none (k := 3) rfl rfl rfl sz42 rfl rfl rfl LN ?_)
   refine At.row 3 (⟨true, b3, 0, 44, [(key).map u8V, [iV next, .slice A33 (((L.take i) ++ [(L.getD i default)]).length) c33]].flatten, 0⟩) rfl (seg_set1 (x := [iV next, .slice A83 ((L.take i).length) c83]) (i := 1) (p := 1) rfl LN OG) ?_
   refine At.nil ?_
   refine At.inb_n ?_
   refine At.next ?_
   refine At.region ?_
   refine At.p (some 15) (P_move rfl rfl) ?_
   refine At.p (some 16) (P_add_i rfl rfl rfl (by omega)) ?_
   refine At.p (some 4) (P_assign rfl rfl) ?_
   refine At.nil ?_
   refine At.next ?_
   refine At.to [(0, _), (1, _), (2, _), (3, _), (4, _), (5, _), (6, _), (7, _), (8, _), (9, _)] [(0, _), (1, _), (2, _), (3, ⟨true, b3, 0, 44, [(key).map u8V, [iV next, .slice A33 ((L.take (i + 1)).length) c33]].flatten, 0⟩), (83, ⟨true, b33, 0, 55, encs EntE (L.take (i + 1)), (c33 - ((L.take (i + 1))).length) * 33⟩)] (AllL.cons_ (rfl) (AllL.cons_ (rfl) (AllL.cons_ (rfl) (AllL.cons_ (rfl) (AllL.cons_ (rfl) (AllL.cons_ (rfl) (AllL.cons_ (rfl) (AllL.cons_ (rfl) (AllL.cons_ (rfl) (AllL.cons_ (rfl) trivial)))))))))) (AllL.cons_ (rfl) (AllL.cons_ (rfl) (AllL.cons_ (rfl) (AllL.cons_ ((by rw [← take_add (by omega)]; rfl)) (AllL.cons_ ((by rw [← take_add (by omega)]; rfl)) trivial))))) ?_
   exact hKc0 _ _ _ (by omega) ⟨i + 1, A33, b33, c33, rfl, rfl, rfl, (by omega), g33a, (by rw [← take_add (by omega)]; exact g33b)⟩
  · -- cond 14 f
   have e14 : ¬ (i : Int) < (n : Int) := of_decide_eq_false h14
   refine At.exit ?_
   refine At.thn_e ?_
   refine At.thn_e ?_
   refine At.inb_hit ?_
   refine At.next ?_
   refine At.seq ?_
   obtain rfl : n = i := by omega
   refine At.region ?_
   refine At.q (some 35) (Q_loadA (k := 3) rfl rfl Try.underlying44 rfl sz44 LN rfl) ?_
   refine At.s (S_storeA none (k := 2) (vs := [(key).map u8V, [iV next, .slice A83 ((L.take n).length) c83]].flatten) rfl rfl rfl (by rw [sz44]; exact congrArg some LN) rfl (one_flatc (one_map (fun _ => rfl)) (one_flatc (one_cons rfl (one_cons rfl one_nil)) one_flat0)) NG rfl LN ?_)
   refine At.nil ?_
   refine At.next ?_
   refine At.ret ?_
   have hqe : (L.take n) = L := (List.take_of_length_le (by omega))
   refine At.giveV (.inl rfl) [83] (rows' := [_]) (ResV.cellA (k := 2) rfl rfl Try.underlying44 rfl sz44 LN rfl) rfl (by simp) (by simp) ?_
   exact ⟨A83, b83, c83, g83a, (by rw [← hqe]; first | omega | (simp; done) | (simp <;> omega) | exact Nat.le_refl _), (by first | (rw [hqe]; try rfl; done) | (rw [← hqe]; try rfl; done) | (simp only [hqe]; try rfl; done) | (simp only [← hqe]; try rfl; done) | rfl), (by first | (rw [hqe]; try rfl; done) | (rw [← hqe]; try rfl; done) | (simp only [hqe]; try rfl; done) | (simp only [← hqe]; try rfl; done) | rfl)⟩

set_option maxHeartbeats 2000000 in
theorem r_Same {keya : List (BitVec 8)} {nexta : Int} {La : List Ent} {Aa : Option Addr} {na ca ba qa : Nat} {keyb : List (BitVec 8)} {nextb : Int} {Lb : List Ent} {Ab : Option Addr} {nb cb bb qb : Nat} (hkeya : keya.length = 32) (hLa : La.length = na) (hAa : 0 < na → Aa = some ⟨ba, qa, none⟩) (hca : na ≤ ca) (hkeyb : keyb.length = 32) (hLb : Lb.length = nb) (hAb : 0 < nb → Ab = some ⟨bb, qb, none⟩) (hcb : nb ≤ cb) (hna : na ≤ 1000000000000000000) (hia : ∀ e ∈ La, -9223372036854775808 ≤ e.id ∧ e.id ≤ 9223372036854775807) (hib : ∀ e ∈ Lb, -9223372036854775808 ≤ e.id ∧ e.id ≤ 9223372036854775807) :
  Con Try.prog 27 [.agg ([(keya).map u8V, [iV nexta, .slice Aa na ca]].flatten).toArray, .agg ([(keyb).map u8V, [iV nextb, .slice Ab nb cb]].flatten).toArray] [⟨false, ba, qa, 0, encs EntE La, 0⟩, ⟨false, bb, qb, 0, encs EntE Lb, 0⟩] (fun v rs => v = .bool (saB keya nexta La keyb nextb Lb) ∧ rs = []) := by
 refine Con.enter Try.func27 Try.ntmps27 (Nat.le_of_ble_eq_true rfl) rfl fun w => ?_
 refine At.seq ?_
 refine At.region ?_
 refine At.s (S_box (some 2) 2 (zs := [(keya).map u8V, [iV nexta, .slice Aa na ca]].flatten) rfl rfl rfl (fun b2 => ?_))
 refine At.s (S_box (some 3) 3 (zs := [(keyb).map u8V, [iV nextb, .slice Ab nb cb]].flatten) rfl rfl rfl (fun b3 => ?_))
 refine At.p (some 4) (P_assign rfl rfl) ?_
 refine At.nil ?_
 refine At.next ?_
 refine At.seq ?_
 refine At.seq ?_
 refine At.region ?_
 refine At.p (some 6) (P_fieldAddr0 (off := 0) rfl Try.underlying44 rfl sz23 rfl rfl) ?_
 refine At.q (some 7) (Q_loadN (k := 2) (j := 0) (cs := (keya).map u8V) rfl rfl Try.underlying23 rfl sz23 rfl rfl rfl (seg_at (i := 0) rfl LN LN) LN) ?_
 refine At.p (some 8) (P_fieldAddr0 (off := 0) rfl Try.underlying44 rfl sz23 rfl rfl) ?_
 refine At.q (some 9) (Q_loadN (k := 3) (j := 0) (cs := (keyb).map u8V) rfl rfl Try.underlying23 rfl sz23 rfl rfl rfl (seg_at (i := 0) rfl LN LN) LN) ?_
 refine At.p (some 10) (P_neq_arr (k := .u8) (xs := keya) (ys := keyb) rfl Try.underlying23 Try.underlying5 sz5 Try.eqGuardType23 rfl rfl LN LN) ?_
 refine At.p (some 11) (P_move rfl rfl) ?_
 refine At.gsplit (t := 11) (want := false) rfl (fun g1 => ?_) (fun g1 => ?_)
 ·
  have eg1 : keya = keyb := bne_eq_false_iff_eq.1 g1
  refine At.gy (t := 11) rfl g1 rfl rfl ?_
  refine At.p (some 12) (P_fieldAddr0 (off := 32) rfl Try.underlying44 rfl sz3 rfl rfl) ?_
  refine At.gy (t := 11) rfl g1 rfl rfl ?_
  refine At.q (some 13) (Q_loadO (k := 2) rfl rfl Try.underlying3 rfl rfl (seg_get (i := 1) (p := 0) rfl LN rfl)) ?_
  refine At.gy (t := 11) rfl g1 rfl rfl ?_
  refine At.p (some 14) (P_fieldAddr0 (off := 32) rfl Try.underlying44 rfl sz3 rfl rfl) ?_
  refine At.gy (t := 11) rfl g1 rfl rfl ?_
  refine At.q (some 15) (Q_loadO (k := 3) rfl rfl Try.underlying3 rfl rfl (seg_get (i := 1) (p := 0) rfl LN rfl)) ?_
  refine At.gy (t := 11) rfl g1 rfl rfl ?_
  refine At.p (some 16) (P_cmp rfl rfl rfl rfl rfl rfl) ?_
  refine At.p (some 17) (P_pick_f rfl rfl g1 rfl) ?_
  refine At.p (some 18) (P_move rfl rfl) ?_
  refine At.gsplit (t := 18) (want := false) rfl (fun g2 => ?_) (fun g2 => ?_)
  ·
   have eg2 : nexta = nextb := bne_eq_false_iff_eq.1 g2
   refine At.gy (t := 18) rfl g2 rfl rfl ?_
   refine At.p (some 19) (P_fieldAddr0 (off := 33) rfl Try.underlying44 rfl sz42 rfl rfl) ?_
   refine At.gy (t := 18) rfl g2 rfl rfl ?_
   refine At.q (some 20) (Q_loadO (k := 2) rfl rfl Try.underlying42 rfl rfl (seg_get (i := 1) (p := 1) rfl LN rfl)) ?_
   refine At.gy (t := 18) rfl g2 rfl rfl ?_
   refine At.p (some 21) (P_len_sl rfl rfl ⟨_, Try.underlying42⟩ rfl) ?_
   refine At.gy (t := 18) rfl g2 rfl rfl ?_
   refine At.p (some 22) (P_fieldAddr0 (off := 33) rfl Try.underlying44 rfl sz42 rfl rfl) ?_
   refine At.gy (t := 18) rfl g2 rfl rfl ?_
   refine At.q (some 23) (Q_loadO (k := 3) rfl rfl Try.underlying42 rfl rfl (seg_get (i := 1) (p := 1) rfl LN rfl)) ?_
   refine At.gy (t := 18) rfl g2 rfl rfl ?_
   refine At.p (some 24) (P_len_sl rfl rfl ⟨_, Try.underlying42⟩ rfl) ?_
   refine At.gy (t := 18) rfl g2 rfl rfl ?_
   refine At.p (some 25) (P_cmp rfl rfl rfl rfl rfl rfl) ?_
   refine At.p (some 26) (P_pick_f rfl rfl g2 rfl) ?_
   refine At.nil ?_
   refine At.next ?_
   refine At.cond rfl (fun h26 => ?_) (fun h26 => ?_)
   · -- cond 26 t
    have e26 : (na : Int) ≠ (nb : Int) := bne_iff_ne.1 h26
    refine At.seq ?_
    refine At.region ?_
    refine At.p (some 4) (P_assign rfl rfl) ?_
    refine At.nil ?_
    refine At.next ?_
    refine At.ret ?_
    refine At.thn_r ?_
    have hq0 : false = (saB keya nexta La keyb nextb Lb) := (by symm; first | exact sa_t (by simp_all) (by omega) (by have h9 := ht; rwa [List.take_of_length_le (by omega), List.take_of_length_le (by omega)] at h9) | exact sa_f (fun h => by simp_all) | exact sa_f (fun h => by have := congrArg List.length h.2.2; omega))
    refine At.give (.inl rfl) [] (rows' := []) (vs := [_]) rfl ⟨rfl, trivial⟩ rfl (by simp) (by simp) ⟨(by first | (rw [hq0]; try rfl; done) | (rw [← hq0]; try rfl; done) | (simp only [hq0]; try rfl; done) | (simp only [← hq0]; try rfl; done) | rfl), (by first | (rw [hq0]; try rfl; done) | (rw [← hq0]; try rfl; done) | (simp only [hq0]; try rfl; done) | (simp only [← hq0]; try rfl; done) | rfl)⟩
   · -- cond 26 f
    have e26 : (na : Int) = (nb : Int) := bne_eq_false_iff_eq.1 h26
    refine At.skip ?_
    refine At.next ?_
    refine At.seq ?_
    refine At.seq ?_
    refine At.region ?_
    refine At.p (some 5) (P_assign rfl rfl) ?_
    refine At.nil ?_
    refine At.next ?_
    refine At.block ?_
    refine At.loopx (I := fun m fr H => ∃ (i : Nat), m = na - i ∧ fr = frOf [(0, .agg ([(keya).map u8V, [iV nexta, .slice Aa na ca]].flatten).toArray), (1, .agg ([(keyb).map u8V, [iV nextb, .slice Ab nb cb]].flatten).toArray), (2, ptr b2 0), (3, ptr b3 0), (5, iV (i : Int)), (6, ptr b2 0), (7, aggK keya), (8, ptr b3 0), (9, aggK keyb), (10, .bool (!(keya == keyb))), (11, .bool (!(keya == keyb))), (12, ptr b2 32), (13, iV nexta), (14, ptr b3 32), (15, iV nextb), (16, .bool (nexta != nextb)), (17, .bool (nexta != nextb)), (18, .bool (nexta != nextb)), (19, ptr b2 33), (20, .slice Aa na ca), (21, iV (na : Int)), (22, ptr b3 33), (23, .slice Ab nb cb), (24, iV (nb : Int)), (25, .bool ((na : Int) != (nb : Int))), (26, .bool ((na : Int) != (nb : Int)))] ∧ H = hOf [(0, ⟨false, ba, qa, 0, encs EntE La, 0⟩), (1, ⟨false, bb, qb, 0, encs EntE Lb, 0⟩), (2, ⟨true, b2, 0, 44, [(keya).map u8V, [iV nexta, .slice Aa na ca]].flatten, 0⟩), (3, ⟨true, b3, 0, 44, [(keyb).map u8V, [iV nextb, .slice Ab nb cb]].flatten, 0⟩)] ∧ (i ≤ na) ∧ (La.take i = Lb.take i)) ?_ ?_
    ·
     intro Kc0 hKc0
     refine At.to [(0, _), (1, _), (2, _), (3, _), (5, _), (6, _), (7, _), (8, _), (9, _), (10, _), (11, _), (12, _), (13, _), (14, _), (15, _), (16, _), (17, _), (18, _), (19, _), (20, _), (21, _), (22, _), (23, _), (24, _), (25, _), (26, _)] [(0, _), (1, _), (2, _), (3, _)] (AllL.cons_ (rfl) (AllL.cons_ (rfl) (AllL.cons_ (rfl) (AllL.cons_ (rfl) (AllL.cons_ (rfl) (AllL.cons_ (rfl) (AllL.cons_ (rfl) (AllL.cons_ (rfl) (AllL.cons_ (rfl) (AllL.cons_ (rfl) (AllL.cons_ (rfl) (AllL.cons_ (rfl) (AllL.cons_ (rfl) (AllL.cons_ (rfl) (AllL.cons_ (rfl) (AllL.cons_ (rfl) (AllL.cons_ (rfl) (AllL.cons_ (rfl) (AllL.cons_ (rfl) (AllL.cons_ (rfl) (AllL.cons_ (rfl) (AllL.cons_ (rfl) (AllL.cons_ (rfl) (AllL.cons_ (rfl) (AllL.cons_ (rfl) (AllL.cons_ (rfl) trivial)))))))))))))))))))))))))) (AllL.cons_ (rfl) (AllL.cons_ (rfl) (AllL.cons_ (rfl) (AllL.cons_ (rfl) trivial)))) ?_
     exact hKc0 _ _ _ ⟨0, rfl, rfl, rfl, (by omega), rfl⟩
    ·
     rintro m fr H ⟨i, rfl, rfl, rfl, hi, ht⟩ Kc0 hKc0
     refine At.seq ?_
     refine At.seq ?_
     refine At.region ?_
     refine At.p (some 27) (P_move rfl rfl) ?_
     refine At.p (some 28) (P_fieldAddr0 (off := 33) rfl Try.underlying44 rfl sz42 rfl rfl) ?_
     refine At.q (some 29) (Q_loadO (k := 2) rfl rfl Try.underlying42 rfl rfl (seg_get (i := 1) (p := 1) rfl LN rfl)) ?_
     refine At.p (some 30) (P_len_sl rfl rfl ⟨_, Try.underlying42⟩ rfl) ?_
     refine At.p (some 31) (P_cmp rfl rfl rfl rfl rfl rfl) ?_
     refine At.nil ?_
     refine At.next ?_
     refine At.cond rfl (fun h31 => ?_) (fun h31 => ?_)
     · -- cond 31 t
      have e31 : (i : Int) < (na : Int) := of_decide_eq_true h31
      have hba := hia _ (ent_mem (i := i) (by omega))
      have hbb := hib _ (ent_mem (i := i) (by omega))
      refine At.skip ?_
      refine At.next ?_
      refine At.seq ?_
      refine At.block ?_
      refine At.seq ?_
      refine At.draws 10 [] [.q false [0, 1, 2, 3, 4, 5, 6, 7, 8, 9]] (by kernel_rfl) (by kernel_rfl) ?_
      refine At.wp (some 34) (P_fieldAddr0 (off := 33) rfl Try.underlying44 rfl sz42 rfl rfl) ?_
      refine At.wq (some 35) (Q_loadO (k := 2) rfl rfl Try.underlying42 rfl rfl (seg_get (i := 1) (p := 1) rfl LN rfl)) ?_
      refine At.wp (some 36) (P_move rfl rfl) ?_
      refine At.wp (some 37) (P_indexAddr_sl (b := ba) (m := qa) (j := i) rfl Try.underlying42 sz55 rfl (hAa OG) rfl RO OG) ?_
      have enf38 := Ent.hp (La.getD i default)
      refine At.wq (some 38) (Q_loadEN (en := EntE) (k := 0) (j := i) (p := 0) (L := La) (cs := [[iV ((La.getD i default).id)], ((La.getD i default).psk).map u8V].flatten) (sz := 33) default rfl rfl rfl Try.underlying55 rfl sz55 rfl OG OG (List.take_of_length_le (Nat.le_of_eq (Enc.len _ _))) LN (by decide)) ?_
      refine At.wp (some 39) (P_fieldAddr0 (off := 33) rfl Try.underlying44 rfl sz42 rfl rfl) ?_
      refine At.wq (some 40) (Q_loadO (k := 3) rfl rfl Try.underlying42 rfl rfl (seg_get (i := 1) (p := 1) rfl LN rfl)) ?_
      refine At.wp (some 41) (P_move rfl rfl) ?_
      refine At.wp (some 42) (P_indexAddr_sl (b := bb) (m := qb) (j := i) rfl Try.underlying42 sz55 rfl (hAb OG) rfl RO OG) ?_
      have enf43 := Ent.hp (Lb.getD i default)
      refine At.wq (some 43) (Q_loadEN (en := EntE) (k := 1) (j := i) (p := 0) (L := Lb) (cs := [[iV ((Lb.getD i default).id)], ((Lb.getD i default).psk).map u8V].flatten) (sz := 33) default rfl rfl rfl Try.underlying55 rfl sz55 rfl OG OG (List.take_of_length_le (Nat.le_of_eq (Enc.len _ _))) LN (by decide)) ?_
      refine At.wqn ?_
      refine At.wt rfl ?_
      refine At.p (some 44) (P_neq_flat (g := 9) (ls := [ROW.lit0 0 (.i .i64)] ++ ((List.replicate 32 (ROW.lit0 0 (.i .u8))) ++ [])) (xs := [[iV ((La.getD i default).id)], ((La.getD i default).psk).map u8V].flatten) (ys := [[iV ((Lb.getD i default).id)], ((Lb.getD i default).psk).map u8V].flatten) (b := decide (((La.getD i default).id) = ((Lb.getD i default).id) ∧ ((La.getD i default).psk) = ((Lb.getD i default).psk) ∧ True)) (dec_iff (eqs_cons (iV_inj _ _) (eqs_end (eqs_map u8V_inj LN eqs_nil)))) rfl (by kernel_rfl) (by kernel_rfl) (by decide) (.inl ⟨_, Try.underlying55⟩) Try.eqGuardType55 rfl rfl (okfc (okf_i (by first | omega | (constructor <;> omega)) okf_n) (okfc (okf_w UK.u8 LN) okf0)) (okfc (okf_i (by first | omega | (constructor <;> omega)) okf_n) (okfc (okf_w UK.u8 LN) okf0))) ?_
      refine At.nil ?_
      refine At.next ?_
      refine At.cond rfl (fun h44 => ?_) (fun h44 => ?_)
      · -- cond 44 t
       have e44 : ¬ (((La.getD i default).id) = ((Lb.getD i default).id) ∧ ((La.getD i default).psk) = ((Lb.getD i default).psk) ∧ True) := notd_t h44
       refine At.seq ?_
       refine At.region ?_
       refine At.p (some 4) (P_assign rfl rfl) ?_
       refine At.nil ?_
       refine At.next ?_
       refine At.ret ?_
       refine At.inb_r ?_
       refine At.thn_r ?_
       refine At.thn_r ?_
       refine At.inb_r ?_
       refine At.thn_r ?_
       have hq0 : false = (saB keya nexta La keyb nextb Lb) := (by symm; first | exact sa_t (by simp_all) (by omega) (by have h9 := ht; rwa [List.take_of_length_le (by omega), List.take_of_length_le (by omega)] at h9) | exact sa_f (fun h => by simp_all) | exact sa_f (fun h => by have := congrArg List.length h.2.2; omega))
       refine At.give (.inl rfl) [] (rows' := []) (vs := [_]) rfl ⟨rfl, trivial⟩ rfl (by simp) (by simp) ⟨(by first | (rw [hq0]; try rfl; done) | (rw [← hq0]; try rfl; done) | (simp only [hq0]; try rfl; done) | (simp only [← hq0]; try rfl; done) | rfl), (by first | (rw [hq0]; try rfl; done) | (rw [← hq0]; try rfl; done) | (simp only [hq0]; try rfl; done) | (simp only [← hq0]; try rfl; done) | rfl)⟩
      · -- cond 44 f
       have e44 : ((La.getD i default).id) = ((Lb.getD i default).id) ∧ ((La.getD i default).psk) = ((Lb.getD i default).psk) ∧ True := notd_f h44
       refine At.skip ?_
       refine At.inb_n ?_
       refine At.next ?_
       refine At.region ?_
       refine At.p (some 32) (P_move rfl rfl) ?_
       refine At.p (some 33) (P_add_i rfl rfl rfl (by omega)) ?_
       refine At.p (some 5) (P_assign rfl rfl) ?_
       refine At.nil ?_
       refine At.next ?_
       refine At.to [(0, _), (1, _), (2, _), (3, _), (5, _), (6, _), (7, _), (8, _), (9, _), (10, _), (11, _), (12, _), (13, _), (14, _), (15, _), (16, _), (17, _), (18, _), (19, _), (20, _), (21, _), (22, _), (23, _), (24, _), (25, _), (26, _)] [(0, _), (1, _), (2, _), (3, _)] (AllL.cons_ (rfl) (AllL.cons_ (rfl) (AllL.cons_ (rfl) (AllL.cons_ (rfl) (AllL.cons_ (rfl) (AllL.cons_ (rfl) (AllL.cons_ (rfl) (AllL.cons_ (rfl) (AllL.cons_ (rfl) (AllL.cons_ (rfl) (AllL.cons_ (rfl) (AllL.cons_ (rfl) (AllL.cons_ (rfl) (AllL.cons_ (rfl) (AllL.cons_ (rfl) (AllL.cons_ (rfl) (AllL.cons_ (rfl) (AllL.cons_ (rfl) (AllL.cons_ (rfl) (AllL.cons_ (rfl) (AllL.cons_ (rfl) (AllL.cons_ (rfl) (AllL.cons_ (rfl) (AllL.cons_ (rfl) (AllL.cons_ (rfl) (AllL.cons_ (rfl) trivial)))))))))))))))))))))))))) (AllL.cons_ (rfl) (AllL.cons_ (rfl) (AllL.cons_ (rfl) (AllL.cons_ (rfl) trivial)))) ?_
       exact hKc0 _ _ _ (by omega) ⟨i + 1, rfl, rfl, rfl, (by omega), (take_go ht (by omega) (by omega) (ent_ext (by simp_all) (by simp_all)))⟩
     · -- cond 31 f
      have e31 : ¬ (i : Int) < (na : Int) := of_decide_eq_false h31
      refine At.exit ?_
      refine At.thn_e ?_
      refine At.thn_e ?_
      refine At.inb_hit ?_
      refine At.next ?_
      refine At.seq ?_
      refine At.region ?_
      refine At.p (some 4) (P_assign rfl rfl) ?_
      refine At.nil ?_
      refine At.next ?_
      refine At.ret ?_
      have hq0 : true = (saB keya nexta La keyb nextb Lb) := (by symm; first | exact sa_t (by simp_all) (by omega) (by have h9 := ht; rwa [List.take_of_length_le (by omega), List.take_of_length_le (by omega)] at h9) | exact sa_f (fun h => by simp_all) | exact sa_f (fun h => by have := congrArg List.length h.2.2; omega))
      refine At.give (.inl rfl) [] (rows' := []) (vs := [_]) rfl ⟨rfl, trivial⟩ rfl (by simp) (by simp) ⟨(by first | (rw [hq0]; try rfl; done) | (rw [← hq0]; try rfl; done) | (simp only [hq0]; try rfl; done) | (simp only [← hq0]; try rfl; done) | rfl), (by first | (rw [hq0]; try rfl; done) | (rw [← hq0]; try rfl; done) | (simp only [hq0]; try rfl; done) | (simp only [← hq0]; try rfl; done) | rfl)⟩
  ·
   have eg2 : nexta ≠ nextb := bne_iff_ne.1 g2
   refine At.gn (some 19) (t := 18) rfl g2 rfl rfl ?_
   refine At.gn (some 20) (t := 18) rfl g2 rfl rfl ?_
   refine At.gn (some 21) (t := 18) rfl g2 rfl rfl ?_
   refine At.gn (some 22) (t := 18) rfl g2 rfl rfl ?_
   refine At.gn (some 23) (t := 18) rfl g2 rfl rfl ?_
   refine At.gn (some 24) (t := 18) rfl g2 rfl rfl ?_
   refine At.gn (some 25) (t := 18) rfl g2 rfl rfl ?_
   refine At.p (some 26) (P_pick_t rfl rfl g2 rfl) ?_
   refine At.nil ?_
   refine At.next ?_
   refine At.cond rfl (fun _ => ?_) (fun h => absurd (h.symm.trans rfl) (by decide))
   refine At.seq ?_
   refine At.region ?_
   refine At.p (some 4) (P_assign rfl rfl) ?_
   refine At.nil ?_
   refine At.next ?_
   refine At.ret ?_
   refine At.thn_r ?_
   have hq0 : false = (saB keya nexta La keyb nextb Lb) := (by symm; first | exact sa_t (by simp_all) (by omega) (by have h9 := ht; rwa [List.take_of_length_le (by omega), List.take_of_length_le (by omega)] at h9) | exact sa_f (fun h => by simp_all) | exact sa_f (fun h => by have := congrArg List.length h.2.2; omega))
   refine At.give (.inl rfl) [] (rows' := []) (vs := [_]) rfl ⟨rfl, trivial⟩ rfl (by simp) (by simp) ⟨(by first | (rw [hq0]; try rfl; done) | (rw [← hq0]; try rfl; done) | (simp only [hq0]; try rfl; done) | (simp only [← hq0]; try rfl; done) | rfl), (by first | (rw [hq0]; try rfl; done) | (rw [← hq0]; try rfl; done) | (simp only [hq0]; try rfl; done) | (simp only [← hq0]; try rfl; done) | rfl)⟩
 ·
  have eg1 : keya ≠ keyb := bne_iff_ne.1 g1
  refine At.gn (some 12) (t := 11) rfl g1 rfl rfl ?_
  refine At.gn (some 13) (t := 11) rfl g1 rfl rfl ?_
  refine At.gn (some 14) (t := 11) rfl g1 rfl rfl ?_
  refine At.gn (some 15) (t := 11) rfl g1 rfl rfl ?_
  refine At.gn (some 16) (t := 11) rfl g1 rfl rfl ?_
  refine At.p (some 17) (P_pick_t rfl rfl g1 rfl) ?_
  refine At.p (some 18) (P_move rfl rfl) ?_
  refine At.gn (some 19) (t := 18) rfl rfl rfl rfl ?_
  refine At.gn (some 20) (t := 18) rfl rfl rfl rfl ?_
  refine At.gn (some 21) (t := 18) rfl rfl rfl rfl ?_
  refine At.gn (some 22) (t := 18) rfl rfl rfl rfl ?_
  refine At.gn (some 23) (t := 18) rfl rfl rfl rfl ?_
  refine At.gn (some 24) (t := 18) rfl rfl rfl rfl ?_
  refine At.gn (some 25) (t := 18) rfl rfl rfl rfl ?_
  refine At.p (some 26) (P_pick_t rfl rfl rfl rfl) ?_
  refine At.nil ?_
  refine At.next ?_
  refine At.cond rfl (fun _ => ?_) (fun h => absurd (h.symm.trans rfl) (by decide))
  refine At.seq ?_
  refine At.region ?_
  refine At.p (some 4) (P_assign rfl rfl) ?_
  refine At.nil ?_
  refine At.next ?_
  refine At.ret ?_
  refine At.thn_r ?_
  have hq0 : false = (saB keya nexta La keyb nextb Lb) := (by symm; first | exact sa_t (by simp_all) (by omega) (by have h9 := ht; rwa [List.take_of_length_le (by omega), List.take_of_length_le (by omega)] at h9) | exact sa_f (fun h => by simp_all) | exact sa_f (fun h => by have := congrArg List.length h.2.2; omega))
  refine At.give (.inl rfl) [] (rows' := []) (vs := [_]) rfl ⟨rfl, trivial⟩ rfl (by simp) (by simp) ⟨(by first | (rw [hq0]; try rfl; done) | (rw [← hq0]; try rfl; done) | (simp only [hq0]; try rfl; done) | (simp only [← hq0]; try rfl; done) | rfl), (by first | (rw [hq0]; try rfl; done) | (rw [← hq0]; try rfl; done) | (simp only [hq0]; try rfl; done) | (simp only [← hq0]; try rfl; done) | rfl)⟩


end Go.Proofs.Ytihciioopdalnaa

