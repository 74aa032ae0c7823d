import Derived.Test.YtihciioopdalnaaTK7
import Derived.Test.YtihciioopdalnaaTK5
import Derived.Test.YtihciioopdalnaaG1
namespace Go.Proofs.Ytihciioopdalnaa
set_option maxRecDepth 20000
set_option linter.unusedVariables false
set_option linter.unusedSimpArgs false
open Go.SE Go.RowKit
theorem mkKn_tk (e : BE) (p : List (BitVec 8)) : (mkKn e p).tk = e := by unfold mkKn; split <;> rfl
theorem mkKn_psk {e : BE} {p : List (BitVec 8)} (h : p.length = 32) : (mkKn e p).psk = p := by rw [mkKn, dif_pos h]
theorem kn_push (ks : List Kn) (e : BE) (p : List (BitVec 8)) : (ks ++ [mkKn e p]).map Kn.tk = ks.map Kn.tk ++ [e] := by rw [List.map_append, List.map_cons, List.map_nil, mkKn_tk]
def KnOk (key : List (BitVec 8)) (L : List Ent) (ks : List Kn) (k : Nat) : Prop := ∀ j, j < k → (ks.getD j default).tk.l = tkT key (L.getD j default).id ∧ (ks.getD j default).psk = (L.getD j default).psk
theorem kn_step {key : List (BitVec 8)} {L : List Ent} {ks : List Kn} {k : Nat} (hks : ks.length = k) (h : KnOk key L ks k) {e : BE} (he : e.l = tkT key (L.getD k default).id) : KnOk key L (ks ++ [mkKn e (L.getD k default).psk]) (k + 1) := fun j hj => by
 rcases Nat.lt_or_ge j k with h1 | h1
 ·
  have : (ks ++ [mkKn e (L.getD k default).psk]).getD j default = ks.getD j default := by
   rw [List.getD_eq_getElem?_getD, List.getElem?_append_left (by omega), ← List.getD_eq_getElem?_getD]
  rw [this]
  exact h j h1
 ·
  obtain rfl : j = k := by omega
  have : (ks ++ [mkKn e (L.getD j default).psk]).getD j default = mkKn e (L.getD j default).psk := by
   rw [List.getD_eq_getElem?_getD, List.getElem?_append_right (by omega), hks, Nat.sub_self]
   rfl
  rw [this, mkKn_tk, mkKn_psk (Ent.hp _)]
  exact ⟨he, rfl⟩
theorem kn_tk (ks : List Kn) (j : Nat) : (ks.map Kn.tk).getD j default = (ks.getD j default).tk := by
 rw [List.getD_eq_getElem?_getD, List.getD_eq_getElem?_getD, List.getElem?_map]
 cases ks[j]? <;> rfl

attribute [local irreducible] macS sumS
attribute [local irreducible] tkT rightT risB lastId
attribute [local irreducible] nuI nuOk idxS idxI mintL miE miK miN miL miI usE usK usN usL usI knN saB fdB flt ruE ruK ruN ruL ruI
set_option maxHeartbeats 2000000 in
theorem c_KnownF {key : List (BitVec 8)} {next : Int} {L : List Ent} {A : Option Addr} {n c b q : Nat} (hkey : key.length = 32) (hL : L.length = n) (hA : 0 < n → A = some ⟨b, q, none⟩) (hc : n ≤ c) (hr : rightT next L = true) :
  Con Try.prog 31 [.agg ([(key).map u8V, [iV next, .slice A n c]].flatten).toArray] [⟨false, b, q, 0, encs EntE L, 0⟩] (fun v rs => ∃ (ks : List Kn) (A' : Option Addr) (b' c' : Nat), (0 < c' → A' = some ⟨b', 0, none⟩) ∧ ks.length ≤ c' ∧ ks.length = L.length ∧ (∀ e ∈ ks.map Kn.tk, e.ok) ∧ KnOk key L ks L.length ∧ v = .slice A' ks.length c' ∧ rs = [⟨true, b', 0, 64, encs KnE ks, (c' - ks.length) * 33⟩] ++ (ks.map Kn.tk).map (BE.row 5)) := by
 refine Con.enter Try.func31 Try.ntmps31 (Nat.le_of_ble_eq_true rfl) rfl fun w => ?_
 refine At.seq ?_
 refine At.region ?_
 refine At.s (S_box (some 1) 1 (zs := [(key).map u8V, [iV next, .slice A n c]].flatten) rfl rfl rfl (fun b1 => ?_))
 refine At.p (some 2) (P_assign rfl rfl) ?_
 refine At.nil ?_
 refine At.next ?_
 refine At.seq ?_
 refine At.seq ?_
 refine At.region ?_
 refine At.q (some 6) (Q_loadA (k := 1) rfl rfl Try.underlying40 rfl sz40 LN rfl) ?_
 refine At.s (S_callV (some 7) [(0, _)] [] (vs := [_]) rfl en32 rfl (VN (by simp) rfl View.all V0) (by simp) (c_TRight (key := key) (next := next) (L := L) (A := A) (n := n) (c := c) (b := b) (q := q) LN LN hA OG) (by rintro _ _ ⟨rfl, rfl⟩; rfl) ?_)
 rintro _ _ ⟨rfl, rfl⟩
 refine At.p (some 8) (P_not rfl rfl) ?_
 refine At.nil ?_
 refine At.next ?_
 refine At.cond rfl (fun h8 => by rw [hr] at h8; simp at h8) (fun h8 => ?_)
 have e8 : rightT next L = true := (by first | (simp; done) | simpa using h8)
 refine At.skip ?_
 refine At.next ?_
 refine At.seq ?_
 refine At.region ?_
 refine At.p (some 3) (P_assign rfl rfl) ?_
 refine At.nil ?_
 refine At.next ?_
 refine At.seq ?_
 refine At.seq ?_
 refine At.region ?_
 refine At.p (some 9) (P_fieldAddr0 (off := 33) rfl Try.underlying40 rfl sz38 rfl rfl) ?_
 refine At.q (some 10) (Q_loadO (k := 1) rfl rfl Try.underlying38 rfl rfl (seg_get (i := 1) (p := 1) rfl LN rfl)) ?_
 refine At.p (some 11) (P_len_sl rfl rfl ⟨_, Try.underlying38⟩ rfl) ?_
 refine At.toM [(0, .agg ([(key).map u8V, [iV next, .slice A n c]].flatten).toArray), (1, ptr b1 0), (2, .slice none 0 0), (3, .slice none 0 0), (6, .agg ([(key).map u8V, [iV next, .slice A n c]].flatten).toArray), (7, .bool (rightT next L)), (8, .bool (!(rightT next L))), (9, ptr b1 33), (10, .slice A n c), (11, iV (n : Int))] [(0, ⟨false, b, q, 0, encs EntE L, 0⟩), (1, ⟨true, b1, 0, 40, [(key).map u8V, [iV next, .slice A n c]].flatten, 0⟩)] [] (AllL.cons_ rfl (AllL.cons_ rfl (AllL.cons_ rfl (AllL.cons_ rfl (AllL.cons_ rfl (AllL.cons_ rfl (AllL.cons_ rfl (AllL.cons_ rfl (AllL.cons_ rfl (AllL.cons_ rfl trivial)))))))))) (AllL.cons_ rfl (AllL.cons_ rfl trivial)) trivial ?_
 refine At.famNew 100000 (fun i => (([] : List BE).getD i default).row 5) ?_
 refine At.p (some 12) (P_move rfl rfl) ?_
 refine At.nil ?_
 refine At.next ?_
 refine At.block ?_
 refine At.empty 3 0 64 ?_
 refine At.loopx (I := fun m fr H => ∃ (k : Nat) (ks : List Kn) (A3 : Option Addr) (b3 c3 : Nat), m = n - k ∧ fr = frOf [(0, .agg ([(key).map u8V, [iV next, .slice A n c]].flatten).toArray), (1, ptr b1 0), (2, .slice none 0 0), (3, .slice A3 ks.length c3), (6, .agg ([(key).map u8V, [iV next, .slice A n c]].flatten).toArray), (7, .bool (rightT next L)), (8, .bool (!(rightT next L))), (9, ptr b1 33), (10, .slice A n c), (11, iV (n : Int)), (12, iV (k : Int))] ∧ H = famsOf (hOf [(0, ⟨false, b, q, 0, encs EntE L, 0⟩), (1, ⟨true, b1, 0, 40, [(key).map u8V, [iV next, .slice A n c]].flatten, 0⟩), (3, ⟨true, b3, 0, 64, encs KnE ks, (c3 - (ks).length) * 33⟩)]) [famB 100000 5 (ks.map Kn.tk)] ∧ (0 < c3 → A3 = some ⟨b3, 0, none⟩) ∧ (ks.length ≤ c3) ∧ (k ≤ n) ∧ (ks.length = k) ∧ (∀ e ∈ ks.map Kn.tk, e.ok) ∧ (KnOk key L ks k)) ?_ ?_
 ·
  intro Kc0 hKc0
  refine At.toM [(0, _), (1, _), (2, _), (3, _), (6, _), (7, _), (8, _), (9, _), (10, _), (11, _), (12, _)] [(0, _), (1, _), (3, _)] [famB 100000 5 (([] : List Kn).map Kn.tk)] (AllL.cons_ (rfl) (AllL.cons_ (rfl) (AllL.cons_ (rfl) (AllL.cons_ (rfl) (AllL.cons_ (rfl) (AllL.cons_ (rfl) (AllL.cons_ (rfl) (AllL.cons_ (rfl) (AllL.cons_ (rfl) (AllL.cons_ (rfl) (AllL.cons_ (rfl) trivial))))))))))) (AllL.cons_ (rfl) (AllL.cons_ (rfl) (AllL.cons_ (rfl) trivial))) (AllL.cons_ FK trivial) ?_
  exact hKc0 _ _ _ ⟨0, ([] : List Kn), none, 0, 0, rfl, rfl, rfl, (fun h => absurd h (Nat.lt_irrefl 0)), (by first | exact Nat.le_refl _ | omega | (simp; done)), (by omega), rfl, (fun e he => nomatch he), (fun j hj => absurd hj (Nat.not_lt_zero _))⟩
 ·
  rintro m fr H ⟨k, ks, A3, b3, c3, rfl, rfl, rfl, g3a, g3b, hk, hks, heo, hko⟩ Kc0 hKc0
  have hr8 := rt_t hr
  refine At.seq ?_
  refine At.region ?_
  refine At.p (some 13) (P_cmp rfl rfl rfl rfl rfl rfl) ?_
  refine At.nil ?_
  refine At.next ?_
  refine At.seq ?_
  refine At.cond rfl (fun h13 => ?_) (fun h13 => ?_)
  · -- cond 13 t
   have e13 : (k : Int) < (n : Int) := of_decide_eq_true h13
   refine At.skip ?_
   refine At.next ?_
   refine At.seq ?_
   refine At.block ?_
   refine At.seq ?_
   refine At.region ?_
   refine At.p (some 14) (P_indexAddr_sl (b := b) (m := q) (j := k) rfl Try.underlying38 sz96 rfl (hA OG) rfl RO OG) ?_
   have enf15 := Ent.hp (L.getD k default)
   refine At.q (some 15) (Q_loadEN (en := EntE) (k := 0) (j := k) (p := 0) (L := L) (cs := [[iV ((L.getD k default).id)], ((L.getD k default).psk).map u8V].flatten) (sz := 33) default rfl rfl rfl Try.underlying96 rfl sz96 rfl OG OG (List.take_of_length_le (Nat.le_of_eq (Enc.len _ _))) LN (by decide)) ?_
   refine At.s (S_alloc (some 5) 5 (zs := [[iV 0], (List.replicate 32 0#8).map u8V].flatten) rfl ze96 rfl (fun b5 => ?_))
   refine At.s (S_storeA none (k := 5) (vs := [[iV ((L.getD k default).id)], ((L.getD k default).psk).map u8V].flatten) rfl rfl rfl (by rw [sz96]; exact congrArg some LN) rfl (one_flatc (one_cons rfl one_nil) (one_flatc (one_map (fun _ => rfl)) one_flat0)) NG rfl LN ?_)
   refine At.nil ?_
   refine At.next ?_
   refine At.draws 9 [] [.q false [0, 1, 2, 3, 5, 6], .e false 4, .q false [7], .e false 8] (by kernel_rfl) (by kernel_rfl) ?_
   refine At.wp (some 16) (P_move rfl rfl) ?_
   refine At.wq (some 17) (Q_loadA (k := 1) rfl rfl Try.underlying40 rfl sz40 LN rfl) ?_
   refine At.wp (some 18) (P_fieldAddr0 (off := 0) rfl Try.underlying96 rfl sz3 rfl rfl) ?_
   refine At.wq (some 19) (Q_loadO (k := 5) rfl rfl Try.underlying3 rfl rfl (seg_get (i := 0) (p := 0) rfl LN rfl)) ?_
   refine At.wp (some 21) (P_fieldAddr0 (off := 1) rfl Try.underlying96 rfl sz23 rfl rfl) ?_
   refine At.wq (some 22) (Q_loadN (k := 5) (j := 1) (cs := ((L.getD k default).psk).map u8V) rfl rfl Try.underlying23 rfl sz23 rfl rfl rfl (seg_at (i := 1) rfl LN LN) LN) ?_
   refine At.wqn ?_
   refine At.we ?_
   refine SStep.up (S_callV (some 20) [(0, _)] [20] (vs := [_, _]) rfl en36 rfl (VN (by simp) rfl View.all V0) (by simp) (c_TText (key := key) (next := next) (L := L) (A := A) (n := n) (c := c) (b := b) (q := q) (id := ((L.getD k default).id)) LN LN hA OG) (by rintro _ _ ⟨A20, b20, c20, g20a, g20b, rfl, rfl⟩; rfl) ?_)
   rintro _ _ ⟨A20, b20, c20, g20a, g20b, rfl, rfl⟩
   have := tk_le key ((L.getD k default).id)
   refine At.wp (some 23) (P_build_struct (cs := ([[.slice A20 ((tkT key ((L.getD k default).id)).length) c20], ((L.getD k default).psk).map u8V].flatten).toArray) (parts := _) (vs := [(0, _), (1, _)]) rfl Try.underlying64 ze64 pl64 rfl (by show Instr.fill _ ([[.slice none 0 0], (List.replicate 32 0#8).map u8V].flatten).toArray _ = _; refine fill_seg (k := 0) (vs := [.slice A20 ((tkT key ((L.getD k default).id)).length) c20]) rfl rfl LN rfl LN LN ?_; refine fill_seg (k := 1) (vs := ((L.getD k default).psk).map u8V) rfl rfl LN rfl LN LN ?_; exact fill_end (by simp))) ?_
   refine At.wqn ?_
   refine At.we ?_
   refine S_buildSliceE (some 24) 24 (cs := [[.slice A20 ((tkT key ((L.getD k default).id)).length) c20], ((L.getD k default).psk).map u8V].flatten) rfl Try.underlying60 sz64 ze64 rfl rfl LN (by decide) (by decide) (fun b24 => ?_)
   refine At.row 24 (⟨true, b24, 0, 64, encs KnE [mkKn (BE.mk A20 b20 c20 (tkT key ((L.getD k default).id))) ((L.getD k default).psk)], 0⟩) rfl (kn_row (tk := (BE.mk A20 b20 c20 (tkT key ((L.getD k default).id)))) LN) ?_
   refine At.wt rfl ?_
   refine At.s (S_appendE (en := KnE) (some 25) 3 ((ks ++ [mkKn (BE.mk A20 b20 c20 (tkT key ((L.getD k default).id))) ((L.getD k default).psk)])) (l := ks) (L := [mkKn (BE.mk A20 b20 c20 (tkT key ((L.getD k default).id))) ((L.getD k default).psk)]) (m := 1) (sz := 33) rfl rfl Try.underlying60 Try.underlying60 (.inr ⟨_, rfl⟩) sz64 by64 ze64 rfl rfl (fun h => ⟨g3a h, rfl⟩) LN OG OG (SrcE.all (en := KnE) (k := 24) (L := [mkKn (BE.mk A20 b20 c20 (tkT key ((L.getD k default).id))) ((L.getD k default).psk)]) rfl rfl (fun _ => rfl) (fun _ => ⟨rfl, rfl, rfl⟩) LN) OG OG rfl LN ?_)
   intro A25 b25 c25 g25a g25b
   refine At.p (some 3) (P_assign rfl rfl) ?_
   refine At.nil ?_
   refine At.inb_n ?_
   refine At.next ?_
   refine At.region ?_
   refine At.p (some 26) (P_add_i rfl rfl rfl (by omega)) ?_
   refine At.p (some 12) (P_move rfl rfl) ?_
   refine At.nil ?_
   refine At.next ?_
   refine At.toM [(0, .agg ([(key).map u8V, [iV next, .slice A n c]].flatten).toArray), (1, ptr b1 0), (2, .slice none 0 0), (3, .slice A25 ((ks ++ [mkKn (BE.mk A20 b20 c20 (tkT key ((L.getD k default).id))) ((L.getD k default).psk)]).length) c25), (5, ptr b5 0), (6, .agg ([(key).map u8V, [iV next, .slice A n c]].flatten).toArray), (7, .bool (rightT next L)), (8, .bool (!(rightT next L))), (9, ptr b1 33), (10, .slice A n c), (11, iV (n : Int)), (12, iV ((k : Int) + 1)), (13, .bool (decide ((k : Int) < (n : Int)))), (14, ptr b (q + k * 33)), (15, .agg ([[iV ((L.getD k default).id)], ((L.getD k default).psk).map u8V].flatten).toArray), (16, .slice A3 ks.length c3), (17, .agg ([(key).map u8V, [iV next, .slice A n c]].flatten).toArray), (18, ptr b5 0), (19, iV ((L.getD k default).id)), (20, .slice A20 ((tkT key ((L.getD k default).id)).length) c20), (21, ptr b5 1), (22, aggK ((L.getD k default).psk)), (23, .agg ([[.slice A20 ((tkT key ((L.getD k default).id)).length) c20], ((L.getD k default).psk).map u8V].flatten).toArray), (24, .slice (some ⟨b24, 0, none⟩) 1 1), (25, .slice A25 ((ks ++ [mkKn (BE.mk A20 b20 c20 (tkT key ((L.getD k default).id))) ((L.getD k default).psk)]).length) c25), (26, iV ((k : Int) + 1))] [(20, ⟨true, b20, 0, 5, (tkT key ((L.getD k default).id)).map u8V, c20 - (tkT key ((L.getD k default).id)).length⟩), (0, ⟨false, b, q, 0, encs EntE L, 0⟩), (1, ⟨true, b1, 0, 40, [(key).map u8V, [iV next, .slice A n c]].flatten, 0⟩), (3, ⟨true, b25, 0, 64, encs KnE (ks ++ [mkKn (BE.mk A20 b20 c20 (tkT key ((L.getD k default).id))) ((L.getD k default).psk)]), (c25 - ((ks ++ [mkKn (BE.mk A20 b20 c20 (tkT key ((L.getD k default).id))) ((L.getD k default).psk)])).length) * 33⟩), (5, ⟨true, b5, 0, 96, [[iV ((L.getD k default).id)], ((L.getD k default).psk).map u8V].flatten, 0⟩), (24, ⟨true, b24, 0, 64, encs KnE [mkKn (BE.mk A20 b20 c20 (tkT key ((L.getD k default).id))) ((L.getD k default).psk)], 0⟩)] [famB 100000 5 (ks.map Kn.tk)] (AllL.cons_ rfl (AllL.cons_ rfl (AllL.cons_ rfl (AllL.cons_ rfl (AllL.cons_ rfl (AllL.cons_ rfl (AllL.cons_ rfl (AllL.cons_ rfl (AllL.cons_ rfl (AllL.cons_ rfl (AllL.cons_ rfl (AllL.cons_ rfl (AllL.cons_ rfl (AllL.cons_ rfl (AllL.cons_ rfl (AllL.cons_ rfl (AllL.cons_ rfl (AllL.cons_ rfl (AllL.cons_ rfl (AllL.cons_ rfl (AllL.cons_ rfl (AllL.cons_ rfl (AllL.cons_ rfl (AllL.cons_ rfl (AllL.cons_ rfl (AllL.cons_ rfl trivial)))))))))))))))))))))))))) (AllL.cons_ rfl (AllL.cons_ rfl (AllL.cons_ rfl (AllL.cons_ rfl (AllL.cons_ rfl (AllL.cons_ rfl trivial)))))) (AllL.cons_ FK trivial) ?_
   refine At.famPush (BE.mk A20 b20 c20 (tkT key (L.getD k default).id)) (AllL.cons_ rfl (AllL.cons_ rfl (AllL.cons_ rfl (AllL.cons_ rfl (AllL.cons_ rfl trivial))))) rfl trivial ?_
   refine At.toM [(0, _), (1, _), (2, _), (3, _), (6, _), (7, _), (8, _), (9, _), (10, _), (11, _), (12, _)] [(0, _), (1, _), (3, _)] [famB 100000 5 ((ks ++ [mkKn (BE.mk A20 b20 c20 (tkT key ((L.getD k default).id))) ((L.getD k default).psk)]).map Kn.tk)] (AllL.cons_ (rfl) (AllL.cons_ (rfl) (AllL.cons_ (rfl) (AllL.cons_ (rfl) (AllL.cons_ (rfl) (AllL.cons_ (rfl) (AllL.cons_ (rfl) (AllL.cons_ (rfl) (AllL.cons_ (rfl) (AllL.cons_ (rfl) (AllL.cons_ (rfl) trivial))))))))))) (AllL.cons_ (rfl) (AllL.cons_ (rfl) (AllL.cons_ (rfl) trivial))) (AllL.cons_ (by rw [kn_push]; exact FK) trivial) ?_
   exact hKc0 _ _ _ (by omega) ⟨k + 1, (ks ++ [mkKn (BE.mk A20 b20 c20 (tkT key ((L.getD k default).id))) ((L.getD k default).psk)]), A25, b25, c25, rfl, rfl, rfl, g25a, (by first | omega | (simp; done) | (simp <;> omega) | exact Nat.le_refl _), (by omega), (by rw [List.length_append, hks]; rfl), (by rw [kn_push]; exact BE.okP heo ⟨g20a, g20b⟩), (kn_step hks hko rfl)⟩
  · -- cond 13 f
   have e13 : ¬ (k : Int) < (n : Int) := of_decide_eq_false h13
   refine At.exit ?_
   refine At.thn_e ?_
   refine At.thn_e ?_
   refine At.inb_hit ?_
   refine At.next ?_
   refine At.seq ?_
   refine At.region ?_
   refine At.p (some 27) (P_move rfl rfl) ?_
   refine At.p (some 2) (P_assign rfl rfl) ?_
   refine At.nil ?_
   refine At.next ?_
   refine At.ret ?_
   refine At.giveV (.inl rfl) ([3] ++ famK 100000 (ks.map Kn.tk).length) (rows' := [_] ++ (ks.map Kn.tk).map (BE.row 5)) (ResV.tmps (vs := [_]) rfl ⟨rfl, trivial⟩) (give_fam rfl FK) (famK_app (by simp) rfl) (own_fam (by simp)) ?_
   have hkn : L.length = k := by omega
   exact ⟨ks, A3, b3, c3, g3a, g3b, by omega, heo, by rw [hkn]; exact hko, rfl, rfl⟩


end Go.Proofs.Ytihciioopdalnaa

