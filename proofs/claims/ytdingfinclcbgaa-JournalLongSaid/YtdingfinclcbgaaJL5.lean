import Derived.Test.YtdingfinclcbgaaJL4
import Derived.Test.YtdingfinclcbgaaG1
namespace Go.Proofs.Ytdingfinclcbgaa
set_option maxRecDepth 20000
set_option linter.unusedVariables false
set_option linter.unusedSimpArgs false
open Go.SE Go.RowKit
set_option maxHeartbeats 2000000 in
theorem c_EntG {bJ bD cj bj : Nat} {ar uj : Int} {gen : BitVec 64} {Aj : Option Addr} {ks : List BG} (hAj : 0 < ks.length → Aj = some ⟨bj, 0, none⟩) (hks : ∀ e ∈ ks, okV e) (hkl : ∀ e ∈ ks, 1 ≤ e.l.length ∧ e.l.length ≤ 14) (hkn : ks.length ≤ 1000) :
  Con Try.prog 33 [ptr bJ 0] ([⟨false, bJ, 0, 82, [ptr bD 0, u64V gen, iV ar, .slice Aj ks.length cj, iV uj, .bool false], 0⟩, ⟨false, bj, 0, 0, (ks).map BG.v, 0⟩] ++ ks.map BG.vrow) (fun v rs => ∃ (es : List BG) (A' : Option Addr) (b' c' : Nat), (0 < c' → A' = some ⟨b', 0, none⟩) ∧ es.length ≤ c' ∧ (∀ e ∈ es, e.ok) ∧ es.map BG.l = ks.map BG.l ∧ v = .slice A' es.length c' ∧ rs = [⟨true, b', 0, 27, es.map BG.v, c' - es.length⟩] ++ es.map (BG.row 5)) := by
 refine Con.enterF 100001 Try.func33 Try.ntmps33 (Nat.le_of_ble_eq_true rfl) rfl fun w => ?_
 refine At.seq ?_
 refine At.region ?_
 refine At.p (some 2) (P_assign rfl rfl) ?_
 refine At.nil ?_
 refine At.next ?_
 refine At.seq ?_
 refine At.seq ?_
 refine At.region ?_
 refine At.p (some 6) (P_move rfl rfl) ?_
 refine At.p (some 7) (P_eql_ptr rfl rfl rfl Try.underlying50) ?_
 refine At.p (some 8) (P_move rfl rfl) ?_
 refine At.gy (t := 8) rfl rfl rfl rfl ?_
 refine At.p (some 9) (P_move rfl rfl) ?_
 refine At.gy (t := 8) rfl rfl rfl rfl ?_
 refine At.p (some 10) (P_nilCheck rfl rfl) ?_
 refine At.gy (t := 8) rfl rfl rfl rfl ?_
 refine At.p (some 11) (P_fieldAddr0 (off := 5) rfl Try.underlying82 rfl sz4 rfl rfl) ?_
 refine At.gy (t := 8) rfl rfl rfl rfl ?_
 refine At.q (some 12) (Q_loadO (k := 0) rfl rfl Try.underlying4 rfl rfl rfl) ?_
 refine At.p (some 13) (P_pick_f rfl rfl rfl rfl) ?_
 refine At.nil ?_
 refine At.next ?_
 refine At.cond rfl (fun h13 => by simp at h13) (fun h13 => ?_)
 refine At.skip ?_
 refine At.next ?_
 refine At.seq ?_
 refine At.region ?_
 refine At.p (some 3) (P_assign rfl rfl) ?_
 refine At.nil ?_
 refine At.next ?_
 refine At.seq ?_
 refine At.seq ?_
 refine At.region ?_
 refine At.p (some 14) (P_move rfl rfl) ?_
 refine At.p (some 15) (P_nilCheck rfl rfl) ?_
 refine At.p (some 16) (P_fieldAddr0 (off := 3) rfl Try.underlying82 rfl sz44 rfl rfl) ?_
 refine At.q (some 17) (Q_loadO (k := 0) rfl rfl Try.underlying44 rfl rfl rfl) ?_
 refine At.p (some 18) (P_len_sl rfl rfl ⟨_, Try.underlying44⟩ rfl) ?_
 refine At.empty 54 0 27 ?_
 refine At.toM [(0, ptr bJ 0), (2, .slice none 0 0), (3, .slice none 0 0), (6, ptr bJ 0), (7, .bool false), (8, .bool false), (9, ptr bJ 0), (10, ptr bJ 0), (11, ptr bJ 5), (12, .bool false), (13, .bool false), (14, ptr bJ 0), (15, ptr bJ 0), (16, ptr bJ 3), (17, .slice Aj ks.length cj), (18, iV (ks.length : Int))] [(0, ⟨false, bJ, 0, 82, [ptr bD 0, u64V gen, iV ar, .slice Aj ks.length cj, iV uj, .bool false], 0⟩), (1, ⟨false, bj, 0, 0, (ks).map BG.v, 0⟩), (54, ⟨true, 0, 0, 27, (([] : List BG)).map BG.v, 0⟩)] [famR 100001 ks] (AllL.cons_ rfl (AllL.cons_ rfl (AllL.cons_ rfl (AllL.cons_ rfl (AllL.cons_ rfl (AllL.cons_ rfl (AllL.cons_ rfl (AllL.cons_ rfl (AllL.cons_ rfl (AllL.cons_ rfl (AllL.cons_ rfl (AllL.cons_ rfl (AllL.cons_ rfl (AllL.cons_ rfl (AllL.cons_ rfl (AllL.cons_ rfl trivial)))))))))))))))) (AllL.cons_ rfl (AllL.cons_ rfl (AllL.cons_ rfl trivial))) (AllL.cons_ FK trivial) ?_
 refine At.famNew 100000 (fun i => (([] : List BG).getD i default).row 5) ?_
 refine At.p (some 19) (P_move rfl rfl) ?_
 refine At.nil ?_
 refine At.next ?_
 refine At.block ?_
 refine At.loopx (I := fun m fr H => ∃ (es : List BG) (A2 : Option Addr) (b2 : Nat) (c2 : Nat), m = ks.length - es.length ∧ fr = frOf [(0, ptr bJ 0), (2, .slice none 0 0), (3, .slice A2 es.length c2), (6, ptr bJ 0), (7, .bool false), (8, .bool false), (9, ptr bJ 0), (10, ptr bJ 0), (11, ptr bJ 5), (12, .bool false), (13, .bool false), (14, ptr bJ 0), (15, ptr bJ 0), (16, ptr bJ 3), (17, .slice Aj ks.length cj), (18, iV (ks.length : Int)), (19, iV (es.length : Int))] ∧ H = famsOf (hOf [(0, ⟨false, bJ, 0, 82, [ptr bD 0, u64V gen, iV ar, .slice Aj ks.length cj, iV uj, .bool false], 0⟩), (1, ⟨false, bj, 0, 0, (ks).map BG.v, 0⟩), (54, ⟨true, b2, 0, 27, (es).map BG.v, c2 - (es).length⟩)]) [famG 100000 5 es, famR 100001 ks] ∧ (0 < c2 → A2 = some ⟨b2, 0, none⟩) ∧ (es.length ≤ c2) ∧ (∀ e ∈ es, e.ok) ∧ (es.map BG.l = (ks.map BG.l).take es.length) ∧ (es.length ≤ ks.length)) ?_ ?_
 ·
  intro Kc0 hKc0
  refine At.toM [(0, _), (2, _), (3, _), (6, _), (7, _), (8, _), (9, _), (10, _), (11, _), (12, _), (13, _), (14, _), (15, _), (16, _), (17, _), (18, _), (19, _)] [(0, _), (1, _), (54, _)] [famG 100000 5 ([] : List BG), famR 100001 ks] (AllL.cons_ (rfl) (AllL.cons_ (rfl) (AllL.cons_ (rfl) (AllL.cons_ (rfl) (AllL.cons_ (rfl) (AllL.cons_ (rfl) (AllL.cons_ (rfl) (AllL.cons_ (rfl) (AllL.cons_ (rfl) (AllL.cons_ (rfl) (AllL.cons_ (rfl) (AllL.cons_ (rfl) (AllL.cons_ (rfl) (AllL.cons_ (rfl) (AllL.cons_ (rfl) (AllL.cons_ (rfl) (AllL.cons_ (rfl) trivial))))))))))))))))) (AllL.cons_ (rfl) (AllL.cons_ (rfl) (AllL.cons_ (rfl) trivial))) (AllL.cons_ FK (AllL.cons_ FK trivial)) ?_
  exact hKc0 _ _ _ ⟨([] : List BG), none, 0, 0, rfl, rfl, rfl, (fun h => absurd h (Nat.lt_irrefl 0)), (Nat.le_refl _), (fun e he => nomatch he), rfl, (Nat.zero_le _)⟩
 ·
  rintro m fr H ⟨es, A2, b2, c2, rfl, rfl, rfl, hA2, hc2, hes, hm, hk⟩ Kc0 hKc0
  refine At.seq ?_
  refine At.region ?_
  refine At.p (some 20) (P_cmp rfl rfl rfl rfl rfl rfl) ?_
  refine At.nil ?_
  refine At.next ?_
  refine At.seq ?_
  refine At.cond rfl (fun h20 => ?_) (fun h20 => ?_)
  · -- cond 20 t
   have e20 : (es.length : Int) < (ks.length : Int) := of_decide_eq_true h20
   refine At.skip ?_
   refine At.next ?_
   refine At.seq ?_
   refine At.block ?_
   refine At.seq ?_
   have hil : es.length < ks.length := by omega
   have hxo := hks _ (getDG_mem hil)
   have hkx := hkl _ (getDG_mem hil)
   have hxle := hxo.2
   refine At.famSee 400 100001 ks es.length rfl FK2 ?_
   refine At.region ?_
   refine At.p (some 21) (P_indexAddr_slz (b := bj) (j := es.length) rfl Try.underlying44 sz27 rfl (hAj OG) rfl RO OG) ?_
   refine At.q (some 22) (Q_loadM (k := 1) (f := BG.v) (l := ks) ((default : BG)) rfl rfl Try.underlying27 rfl rfl OG) ?_
   refine At.p (some 5) (P_assign rfl rfl) ?_
   refine At.nil ?_
   refine At.next ?_
   refine At.region ?_
   refine At.p (some 23) (P_move rfl rfl) ?_
   refine At.p (some 24) (P_move rfl rfl) ?_
   refine At.s (S_callV (some 25) [(400, _)] [25] (vs := [_]) rfl en51 rfl (VN (by simp) rfl View.all V0) (by simp) (c_BClone (b := ((ks.getD es.length default).l)) (nb := ((ks.getD es.length default).l.length)) (Ab := ((ks.getD es.length default).A)) (cb := ((ks.getD es.length default).c)) (bb := ((ks.getD es.length default).b)) (qb := ((ks.getD es.length default).q)) LN (fun h => hxo.1 (by omega)) OG) (by rintro _ _ ⟨A25, b25, c25, g25a, g25b, rfl, rfl⟩; rfl) ?_)
   rintro _ _ ⟨A25, b25, c25, g25a, g25b, rfl, rfl⟩
   refine At.s (S_buildSliceV (some 26) 26 (([(bG A25 b25 c25 ((ks.getD es.length default).l))]).map BG.v) rfl Try.underlying44 sz27 ze27 rfl rfl (by decide) (by decide) rfl rfl (fun b26 => ?_))
   refine At.s (S_appendM (some 27) 54 ((es ++ [(bG A25 b25 c25 ((ks.getD es.length default).l))])) (f := BG.v) (l := es) (L := [(bG A25 b25 c25 ((ks.getD es.length default).l))]) (m := 1) rfl Try.underlying44 Try.underlying44 (.inr ⟨_, rfl⟩) sz27 by27 ze27 rfl rfl (fun h => ⟨hA2 h, rfl⟩) LN OG (Src.all (k := 26) (l := [(bG A25 b25 c25 ((ks.getD es.length default).l))]) rfl (fun _ => rfl) (fun _ => ⟨rfl, rfl, rfl⟩) LN) (fun _ => rfl) OG OG rfl LN ?_)
   intro A27 b27 c27 g27a g27b
   refine At.p (some 3) (P_assign rfl rfl) ?_
   refine At.nil ?_
   refine At.inb_n ?_
   refine At.next ?_
   refine At.region ?_
   refine At.p (some 28) (P_add_i rfl rfl rfl (by omega)) ?_
   refine At.p (some 19) (P_move rfl rfl) ?_
   refine At.nil ?_
   refine At.next ?_
   refine At.toM [(0, ptr bJ 0), (2, .slice none 0 0), (3, .slice A27 ((es ++ [(bG A25 b25 c25 ((ks.getD es.length default).l))]).length) c27), (5, .slice ((ks.getD es.length default).A) ((ks.getD es.length default).l.length) ((ks.getD es.length default).c)), (6, ptr bJ 0), (7, .bool false), (8, .bool false), (9, ptr bJ 0), (10, ptr bJ 0), (11, ptr bJ 5), (12, .bool false), (13, .bool false), (14, ptr bJ 0), (15, ptr bJ 0), (16, ptr bJ 3), (17, .slice Aj ks.length cj), (18, iV (ks.length : Int)), (19, iV ((es.length : Int) + 1)), (20, .bool (decide ((es.length : Int) < (ks.length : Int)))), (21, ptr bj es.length), (22, .slice ((ks.getD es.length default).A) ((ks.getD es.length default).l.length) ((ks.getD es.length default).c)), (23, .slice A2 es.length c2), (24, .slice ((ks.getD es.length default).A) ((ks.getD es.length default).l.length) ((ks.getD es.length default).c)), (25, .slice A25 (((ks.getD es.length default).l).length) c25), (26, .slice (some ⟨b26, 0, none⟩) 1 1), (27, .slice A27 ((es ++ [(bG A25 b25 c25 ((ks.getD es.length default).l))]).length) c27), (28, iV ((es.length : Int) + 1))] [(25, ⟨true, b25, 0, 5, (((ks.getD es.length default).l)).map u8V, c25 - (((ks.getD es.length default).l)).length⟩), (0, ⟨false, bJ, 0, 82, [ptr bD 0, u64V gen, iV ar, .slice Aj ks.length cj, iV uj, .bool false], 0⟩), (1, ⟨false, bj, 0, 0, (ks).map BG.v, 0⟩), (26, ⟨true, b26, 0, 27, ([(bG A25 b25 c25 ((ks.getD es.length default).l))]).map BG.v, 0⟩), (54, ⟨true, b27, 0, 27, ((es ++ [(bG A25 b25 c25 ((ks.getD es.length default).l))])).map BG.v, c27 - ((es ++ [(bG A25 b25 c25 ((ks.getD es.length default).l))])).length⟩), (400, pRow ((ks.getD es.length default).b) ((ks.getD es.length default).q) ((ks.getD es.length default).l))] [famG 100000 5 es, famR 100001 ks] (AllL.cons_ rfl (AllL.cons_ rfl (AllL.cons_ rfl (AllL.cons_ rfl (AllL.cons_ rfl (AllL.cons_ rfl (AllL.cons_ rfl (AllL.cons_ rfl (AllL.cons_ rfl (AllL.cons_ rfl (AllL.cons_ rfl (AllL.cons_ rfl (AllL.cons_ rfl (AllL.cons_ rfl (AllL.cons_ rfl (AllL.cons_ rfl (AllL.cons_ rfl (AllL.cons_ rfl (AllL.cons_ rfl (AllL.cons_ rfl (AllL.cons_ rfl (AllL.cons_ rfl (AllL.cons_ rfl (AllL.cons_ rfl (AllL.cons_ rfl (AllL.cons_ rfl (AllL.cons_ rfl trivial))))))))))))))))))))))))))) (AllL.cons_ rfl (AllL.cons_ rfl (AllL.cons_ rfl (AllL.cons_ rfl (AllL.cons_ rfl (AllL.cons_ rfl trivial)))))) (AllL.cons_ FK (AllL.cons_ FK trivial)) ?_
   refine At.famPushG (bG A25 b25 c25 (ks.getD es.length default).l) (AllL.cons_ rfl (AllL.cons_ rfl (AllL.cons_ rfl (AllL.cons_ rfl (AllL.cons_ rfl trivial))))) rfl (AllL.cons_ rfl trivial) ?_
   refine At.toM [(0, _), (2, _), (3, _), (6, _), (7, _), (8, _), (9, _), (10, _), (11, _), (12, _), (13, _), (14, _), (15, _), (16, _), (17, _), (18, _), (19, iV ((es ++ [(bG A25 b25 c25 (ks.getD es.length default).l)]).length : Int))] [(0, _), (1, _), (54, _)] [famG 100000 5 (es ++ [(bG A25 b25 c25 (ks.getD es.length default).l)]), famR 100001 ks] (AllL.cons_ (rfl) (AllL.cons_ (rfl) (AllL.cons_ (rfl) (AllL.cons_ (rfl) (AllL.cons_ (rfl) (AllL.cons_ (rfl) (AllL.cons_ (rfl) (AllL.cons_ (rfl) (AllL.cons_ (rfl) (AllL.cons_ (rfl) (AllL.cons_ (rfl) (AllL.cons_ (rfl) (AllL.cons_ (rfl) (AllL.cons_ (rfl) (AllL.cons_ (rfl) (AllL.cons_ (rfl) (AllL.cons_ ((congrArg (fun z : Int => some (iV z)) (by simp))) trivial))))))))))))))))) (AllL.cons_ (rfl) (AllL.cons_ (rfl) (AllL.cons_ (rfl) trivial))) (AllL.cons_ FK (AllL.cons_ FK trivial)) ?_
   exact hKc0 _ _ _ (by simp only [List.length_append, List.length_singleton]; omega) ⟨(es ++ [(bG A25 b25 c25 (ks.getD es.length default).l)]), A27, b27, c27, rfl, rfl, rfl, g27a, g27b, (BG.okP hes (bG_ok g25a g25b)), (open_step hm (getD_l ks es.length).symm (by rw [List.length_map]; exact hil)), (by rw [List.length_append, List.length_singleton]; omega)⟩
  · -- cond 20 f
   have e20 : ¬ (es.length : Int) < (ks.length : Int) := of_decide_eq_false h20
   refine At.exit ?_
   refine At.thn_e ?_
   refine At.thn_e ?_
   refine At.inb_hit ?_
   refine At.next ?_
   refine At.seq ?_
   refine At.region ?_
   refine At.p (some 29) (P_move rfl rfl) ?_
   refine At.p (some 2) (P_assign rfl rfl) ?_
   refine At.nil ?_
   refine At.next ?_
   refine At.ret ?_
   have hmk : es.map BG.l = ks.map BG.l := by rw [hm, show es.length = (ks.map BG.l).length by rw [List.length_map]; omega, List.take_length]
   refine At.giveV (.inl rfl) ([54] ++ famK 100000 es.length) (rows' := [_] ++ es.map (BG.row 5)) (ResV.tmps (vs := [_]) rfl ⟨rfl, trivial⟩) (give_famG rfl FK) (famK_app (by simp) rfl) (own_famG (by simp)) ?_
   exact ⟨es, A2, b2, c2, hA2, hc2, hes, hmk, rfl, rfl⟩

set_option maxHeartbeats 2000000 in
theorem c_rSame {es1 : List BG} {Aa : Option Addr} {na ca ba qa : Nat} {es2 : List BG} {Ab : Option Addr} {nb cb bb qb : Nat} (hna : es1.length = na) (hAa : 0 < na → Aa = some ⟨ba, qa, none⟩) (hnb : es2.length = nb) (hAb : 0 < nb → Ab = some ⟨bb, qb, none⟩) (h1 : ∀ e ∈ es1, okV e) (h2 : ∀ e ∈ es2, okV e) (hm : es1.map BG.l = es2.map BG.l) (hnk : na ≤ 1000) :
  Con Try.prog 32 [.slice Aa na ca, .slice Ab nb cb] ([⟨false, ba, qa, 0, (es1).map BG.v, 0⟩, ⟨false, bb, qb, 0, (es2).map BG.v, 0⟩] ++ es1.map BG.vrow ++ es2.map BG.vrow) (fun v rs => v = .bool true ∧ rs = []) := by
 refine Con.enterF2 100000 100001 Try.func32 Try.ntmps32 (Nat.le_of_ble_eq_true rfl) rfl fun w => ?_
 refine At.seq ?_
 have hll : es1.length = es2.length := by have := congrArg List.length hm; simpa using this
 refine At.region ?_
 refine At.p (some 4) (P_assign rfl rfl) ?_
 refine At.nil ?_
 refine At.next ?_
 refine At.seq ?_
 refine At.seq ?_
 refine At.region ?_
 refine At.p (some 6) (P_move rfl rfl) ?_
 refine At.p (some 7) (P_len_sl rfl rfl ⟨_, Try.underlying44⟩ rfl) ?_
 refine At.p (some 8) (P_move rfl rfl) ?_
 refine At.p (some 9) (P_len_sl rfl rfl ⟨_, Try.underlying44⟩ rfl) ?_
 refine At.p (some 10) (P_cmp rfl rfl rfl rfl rfl rfl) ?_
 refine At.nil ?_
 refine At.next ?_
 refine At.cond rfl (fun h10 => by rw [bne_iff_ne] at h10; omega) (fun h10 => ?_)
 have e10 : (na : Int) = (nb : Int) := bne_eq_false_iff_eq.1 h10
 refine At.skip ?_
 refine At.next ?_
 refine At.seq ?_
 refine At.seq ?_
 refine At.region ?_
 refine At.p (some 5) (P_assign rfl rfl) ?_
 refine At.nil ?_
 refine At.next ?_
 refine At.block ?_
 refine At.loopx (I := fun m fr H => ∃ (k : Nat), m = na - k ∧ fr = frOf [(0, .slice Aa na ca), (1, .slice Ab nb cb), (5, iV (k : Int)), (6, .slice Aa na ca), (7, iV (na : Int)), (8, .slice Ab nb cb), (9, iV (nb : Int)), (10, .bool ((na : Int) != (nb : Int)))] ∧ H = famsOf (hOf [(0, ⟨false, ba, qa, 0, (es1).map BG.v, 0⟩), (1, ⟨false, bb, qb, 0, (es2).map BG.v, 0⟩)]) [famR 100000 es1, famR 100001 es2] ∧ (k ≤ na)) ?_ ?_
 ·
  intro Kc0 hKc0
  refine At.toM [(0, _), (1, _), (5, _), (6, _), (7, _), (8, _), (9, _), (10, _)] [(0, _), (1, _)] [famR 100000 es1, famR 100001 es2] (AllL.cons_ (rfl) (AllL.cons_ (rfl) (AllL.cons_ (rfl) (AllL.cons_ (rfl) (AllL.cons_ (rfl) (AllL.cons_ (rfl) (AllL.cons_ (rfl) (AllL.cons_ (rfl) trivial)))))))) (AllL.cons_ (rfl) (AllL.cons_ (rfl) trivial)) (AllL.cons_ FK (AllL.cons_ FK trivial)) ?_
  exact hKc0 _ _ _ ⟨0, rfl, rfl, rfl, (by omega)⟩
 ·
  rintro m fr H ⟨k, rfl, rfl, rfl, hk⟩ Kc0 hKc0
  refine At.seq ?_
  refine At.seq ?_
  refine At.region ?_
  refine At.p (some 11) (P_move rfl rfl) ?_
  refine At.p (some 12) (P_move rfl rfl) ?_
  refine At.p (some 13) (P_len_sl rfl rfl ⟨_, Try.underlying44⟩ rfl) ?_
  refine At.p (some 14) (P_cmp rfl rfl rfl rfl rfl rfl) ?_
  refine At.nil ?_
  refine At.next ?_
  refine At.cond rfl (fun h14 => ?_) (fun h14 => ?_)
  · -- cond 14 t
   have e14 : (k : Int) < (na : Int) := of_decide_eq_true h14
   refine At.skip ?_
   refine At.next ?_
   refine At.seq ?_
   refine At.block ?_
   refine At.seq ?_
   refine At.draws 10 [] [.q false [0, 1, 2, 3, 4, 5, 6, 7, 8, 9]] (by kernel_rfl) (by kernel_rfl) ?_
   refine At.wp (some 17) (P_move rfl rfl) ?_
   refine At.wp (some 18) (P_move rfl rfl) ?_
   refine At.wp (some 19) (P_indexAddr_sl1 (b := ba) (m := qa) (j := k) rfl Try.underlying44 sz27 rfl (hAa OG) rfl RO OG) ?_
   refine At.wq (some 20) (Q_loadR (k := 0) (f := BG.v) (l := es1) (j := k) ((default : BG)) rfl rfl Try.underlying27 rfl rfl rfl OG) ?_
   refine At.wq (some 21) (Q_strV 100000 k FK2 (by omega) h1 rfl Try.underlying27 Try.underlying5 Try.underlying9 rfl) ?_
   refine At.wp (some 22) (P_move rfl rfl) ?_
   refine At.wp (some 23) (P_move rfl rfl) ?_
   refine At.wp (some 24) (P_indexAddr_sl1 (b := bb) (m := qb) (j := k) rfl Try.underlying44 sz27 rfl (hAb OG) rfl RO OG) ?_
   refine At.wq (some 25) (Q_loadR (k := 1) (f := BG.v) (l := es2) (j := k) ((default : BG)) rfl rfl Try.underlying27 rfl rfl rfl OG) ?_
   refine At.wq (some 26) (Q_strV 100001 k FK2 (by omega) h2 rfl Try.underlying27 Try.underlying5 Try.underlying9 rfl) ?_
   refine At.wqn ?_
   refine At.wt rfl ?_
   refine At.p (some 27) (P_neq_str (a := ((es1.getD k default).l)) (b := ((es2.getD k default).l)) rfl rfl rfl) ?_
   refine At.nil ?_
   refine At.next ?_
   refine At.cond rfl (fun h27 => by rw [getD_same hm k] at h27; simp at h27) (fun h27 => ?_)
   have e27 : ((es1.getD k default).l) = ((es2.getD k default).l) := (by first | (simp; done) | simpa using h27)
   refine At.skip ?_
   refine At.inb_n ?_
   refine At.next ?_
   refine At.region ?_
   refine At.p (some 15) (P_move rfl rfl) ?_
   refine At.p (some 16) (P_add_i rfl rfl rfl (by omega)) ?_
   refine At.p (some 5) (P_assign rfl rfl) ?_
   refine At.nil ?_
   refine At.next ?_
   refine At.toM [(0, _), (1, _), (5, iV ((k + 1 : Nat) : Int)), (6, _), (7, _), (8, _), (9, _), (10, _)] [(0, _), (1, _)] [famR 100000 es1, famR 100001 es2] (AllL.cons_ (rfl) (AllL.cons_ (rfl) (AllL.cons_ (rfl) (AllL.cons_ (rfl) (AllL.cons_ (rfl) (AllL.cons_ (rfl) (AllL.cons_ (rfl) (AllL.cons_ (rfl) trivial)))))))) (AllL.cons_ (rfl) (AllL.cons_ (rfl) trivial)) (AllL.cons_ FK (AllL.cons_ FK trivial)) ?_
   exact hKc0 _ _ _ (by omega) ⟨k + 1, rfl, rfl, rfl, (by omega)⟩
  · -- cond 14 f
   have e14 : ¬ (k : Int) < (na : Int) := of_decide_eq_false h14
   refine At.exit ?_
   refine At.thn_e ?_
   refine At.thn_e ?_
   refine At.inb_hit ?_
   refine At.next ?_
   refine At.seq ?_
   refine At.region ?_
   refine At.p (some 4) (P_assign rfl rfl) ?_
   refine At.nil ?_
   refine At.next ?_
   refine At.ret ?_
   refine At.give (.inl rfl) [] (rows' := []) (vs := [_]) rfl ⟨rfl, trivial⟩ rfl (by simp) (by simp) ⟨rfl, rfl⟩


end Go.Proofs.Ytdingfinclcbgaa

