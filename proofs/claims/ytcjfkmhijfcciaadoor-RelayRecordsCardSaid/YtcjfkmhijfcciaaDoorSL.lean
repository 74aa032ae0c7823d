import Derived.Test.YtcjfkmhijfcciaaDoorXT4
import Derived.Test.YtcjfkmhijfcciaaDoorSM1
import Derived.Test.YtcjfkmhijfcciaaDoorKN
namespace Go.Proofs.YtcjfkmhijfcciaaDoor
set_option maxRecDepth 20000
set_option linter.unusedVariables false
set_option linter.unusedSimpArgs false
open Go.SE Go.RowKit
attribute [local irreducible] dkS dvS nnS nnI hdR rsT rsB rsE roE roK roT roX roO kdOk trN trL trK inR wN sumS macS labS
attribute [local irreducible] rcTo rcN cnt
theorem sum_abc : sumS [97#8, 98#8, 99#8] = [186#8, 120#8, 22#8, 191#8, 143#8, 1#8, 207#8, 234#8, 65#8, 65#8, 64#8, 222#8, 93#8, 174#8, 34#8, 35#8, 176#8, 3#8, 97#8, 163#8, 150#8, 23#8, 122#8, 156#8, 180#8, 16#8, 255#8, 97#8, 242#8, 0#8, 21#8, 173#8] := abc_sum

set_option maxHeartbeats 2000000 in
theorem c_stands   :
  Con Tryd.prog 15 [] [] (fun v rs => v = .bool true ∧ rs = []) := by
 refine Con.enter Tryd.func15 Tryd.ntmps15 (Nat.le_of_ble_eq_true rfl) rfl fun w => ?_
 refine At.seq ?_
 refine At.region ?_
 refine At.p (some 0) (P_assign rfl rfl) ?_
 refine At.nil ?_
 refine At.next ?_
 refine At.seq ?_
 refine At.region ?_
 refine At.s (S_buildSliceV (some 2) 2 (([97#8, 98#8, 99#8]).map u8V) rfl Tryd.underlying36 sz5 ze5 rfl rfl (by decide) (by decide) rfl ⟨rfl, rfl, rfl⟩ (fun b2 => ?_))
 refine At.s (S_convB (some 3) (k := 2) rfl Tryd.underlying36 Tryd.underlying5 rfl rfl (by simp) ?_)
 refine At.s (S_callV (some 4) [(2, _)] [] (vs := [_]) rfl en29 rfl (VN (by simp) rfl View.all V0) (by simp) (c_SumN (l := [97#8, 98#8, 99#8]) (n := 3) (A := (some ⟨b2, 0, none⟩)) (bq := b2) (q := 0) LN (fun _ => rfl) OG) (by rintro _ _ ⟨rfl, rfl⟩; rfl) ?_)
 rintro _ _ ⟨rfl, rfl⟩
 have := sumS_len [97#8, 98#8, 99#8]
 simp only [sum_abc]
 refine At.s (S_alloc (some 1) 1 (zs := (List.replicate 32 0#8).map u8V) rfl ze22 rfl (fun b1 => ?_))
 refine At.s (S_storeA none (k := 1) (vs := ([186#8, 120#8, 22#8, 191#8, 143#8, 1#8, 207#8, 234#8, 65#8, 65#8, 64#8, 222#8, 93#8, 174#8, 34#8, 35#8, 176#8, 3#8, 97#8, 163#8, 150#8, 23#8, 122#8, 156#8, 180#8, 16#8, 255#8, 97#8, 242#8, 0#8, 21#8, 173#8]).map u8V) rfl rfl rfl (by rw [sz22]; exact congrArg some LN) rfl (one_map (fun _ => rfl)) NG rfl LN ?_)
 refine At.nil ?_
 refine At.next ?_
 refine At.seq ?_
 refine At.region ?_
 refine At.p (some 5) (P_indexAddr_arr1 (j := 0) rfl Tryd.underlying22 sz5 rfl rfl rfl (by decide)) ?_
 refine At.q (some 6) (Q_loadM (k := 1) (f := u8V) (l := [186#8, 120#8, 22#8, 191#8, 143#8, 1#8, 207#8, 234#8, 65#8, 65#8, 64#8, 222#8, 93#8, 174#8, 34#8, 35#8, 176#8, 3#8, 97#8, 163#8, 150#8, 23#8, 122#8, 156#8, 180#8, 16#8, 255#8, 97#8, 242#8, 0#8, 21#8, 173#8]) (0#8) rfl rfl Tryd.underlying5 rfl rfl OG) ?_
 refine At.p (some 7) (P_eql_w (n := 8) (b := 186#8) rfl rfl rfl) ?_
 refine At.p (some 8) (P_move rfl rfl) ?_
 refine At.gy (t := 8) rfl (by decide) rfl rfl ?_
 refine At.p (some 9) (P_indexAddr_arr1 (j := 31) rfl Tryd.underlying22 sz5 rfl rfl rfl (by decide)) ?_
 refine At.gy (t := 8) rfl (by decide) rfl rfl ?_
 refine At.q (some 10) (Q_loadM (k := 1) (f := u8V) (l := [186#8, 120#8, 22#8, 191#8, 143#8, 1#8, 207#8, 234#8, 65#8, 65#8, 64#8, 222#8, 93#8, 174#8, 34#8, 35#8, 176#8, 3#8, 97#8, 163#8, 150#8, 23#8, 122#8, 156#8, 180#8, 16#8, 255#8, 97#8, 242#8, 0#8, 21#8, 173#8]) (0#8) rfl rfl Tryd.underlying5 rfl rfl OG) ?_
 refine At.gy (t := 8) rfl (by decide) rfl rfl ?_
 refine At.p (some 11) (P_eql_w (n := 8) (b := 173#8) rfl rfl rfl) ?_
 refine At.p (some 12) (P_pick_t rfl rfl (by decide) rfl) ?_
 refine At.p (some 0) (P_assign rfl rfl) ?_
 refine At.nil ?_
 refine At.next ?_
 refine At.ret ?_
 have hq0 : (([186#8, 120#8, 22#8, 191#8, 143#8, 1#8, 207#8, 234#8, 65#8, 65#8, 64#8, 222#8, 93#8, 174#8, 34#8, 35#8, 176#8, 3#8, 97#8, 163#8, 150#8, 23#8, 122#8, 156#8, 180#8, 16#8, 255#8, 97#8, 242#8, 0#8, 21#8, 173#8].getD 31 0#8) == (173#8)) = true := (by decide)
 refine At.give (.inl rfl) [] (rows' := []) (vs := [_]) rfl ⟨rfl, trivial⟩ rfl (by simp) (by simp) ⟨(by first | (rw [hq0]; try rfl; done) | (rw [← hq0]; try rfl; done) | (simp only [hq0]; try rfl; done) | (simp only [← hq0]; try rfl; done) | rfl), (by first | (rw [hq0]; try rfl; done) | (rw [← hq0]; try rfl; done) | (simp only [hq0]; try rfl; done) | (simp only [← hq0]; try rfl; done) | rfl)⟩

set_option maxHeartbeats 8000000 in
theorem l_Recs {s : List (BitVec 8)} {es : List BG} {A : Option Addr} {nr c b q : Nat} {n : Int} (hs : s.length = 32) (hL : es.length = nr) (hA : 0 < nr → A = some ⟨b, q, none⟩) (hes : ∀ e ∈ es, e.okR) :
  Con Tryd.prog 4 [aggK s, .slice A nr c, iV n] ([⟨false, b, q, 0, (es).map BG.v, 0⟩] ++ es.map BG.vrow) (fun v rs => v = .bool true ∧ rs = []) := by
 refine Con.enterF 100001 Tryd.func4 Tryd.ntmps4 (Nat.le_of_ble_eq_true rfl) rfl fun w => ?_
 refine At.seq ?_
 refine At.region ?_
 refine At.s (S_box (some 3) 3 (zs := (s).map u8V) rfl rfl rfl (fun b3 => ?_))
 refine At.p (some 6) (P_assign rfl rfl) ?_
 refine At.nil ?_
 refine At.next ?_
 refine At.seq ?_
 refine At.region ?_
 refine At.q (some 30) (Q_loadA (k := 3) rfl rfl Tryd.underlying22 rfl sz22 LN rfl) ?_
 refine At.s (S_callV (some 31) [] [] (vs := [_]) rfl en13 rfl V0 (by simp) (c_Der (s := s) LN) (by rintro _ _ ⟨rfl, rfl⟩; rfl) ?_)
 rintro _ _ ⟨rfl, rfl⟩
 have := dkS_len s
 have := dvS_len s
 refine At.s (S_alloc (some 7) 7 (zs := [(List.replicate 32 0#8).map u8V, (List.replicate 12 0#8).map u8V].flatten) rfl ze41 rfl (fun b7 => ?_))
 refine At.s (S_storeA none (k := 7) (vs := [(dkS s).map u8V, (dvS s).map u8V].flatten) rfl rfl rfl (by rw [sz41]; exact congrArg some LN) rfl (one_flatc (one_map (fun _ => rfl)) (one_flatc (one_map (fun _ => rfl)) one_flat0)) NG rfl LN ?_)
 refine At.nil ?_
 refine At.next ?_
 refine At.seq ?_
 refine At.region ?_
 refine At.s (S_callV (some 32) [] [] (vs := [_]) rfl en5 rfl V0 (by simp) (c_gN (n := 0) ) (by rintro _ _ ⟨rfl, rfl⟩; rfl) ?_)
 rintro _ _ ⟨rfl, rfl⟩
 refine At.s (S_alloc (some 8) 8 (zs := [iV 0, iV 0, iV 0]) rfl ze24 rfl (fun b8 => ?_))
 refine At.s (S_storeA none (k := 8) (vs := [iV (0 : Int), iV 0, iV 0]) rfl rfl rfl (by rw [sz24]; exact congrArg some LN) rfl (one_cons rfl (one_cons rfl (one_cons rfl one_nil))) NG rfl LN ?_)
 refine At.nil ?_
 refine At.next ?_
 refine At.seq ?_
 refine At.region ?_
 refine At.p (some 9) (P_assign rfl rfl) ?_
 refine At.nil ?_
 refine At.next ?_
 refine At.seq ?_
 refine At.region ?_
 refine At.p (some 10) (P_assign rfl rfl) ?_
 refine At.nil ?_
 refine At.next ?_
 refine At.seqJ (fun fr H => ∃ (N : Nat) (A9 : Option Addr) (b9 c9 : Nat) (A10 : Option Addr) (b10 c10 : Nat), fr = frOf [(2, iV n), (7, ptr b7 0), (9, .slice A9 ((rcTo (dkS s) (dvS s) es N).length) c9), (10, .slice A10 (((es.take N).map cutE).length) c10)] ∧ H = famsOf (hOf [(0, ⟨false, b, q, 0, (es).map BG.v, 0⟩), (7, ⟨true, b7, 0, 41, [(dkS s).map u8V, (dvS s).map u8V].flatten, 0⟩), (9, ⟨true, b9, 0, 5, ((rcTo (dkS s) (dvS s) es N)).map u8V, c9 - ((rcTo (dkS s) (dvS s) es N)).length⟩), (10, ⟨true, b10, 0, 36, (((es.take N).map cutE)).map BG.v, c10 - (((es.take N).map cutE)).length⟩)]) [famR 100001 es] ∧ (0 < c9 → A9 = some ⟨b9, 0, none⟩) ∧ ((rcTo (dkS s) (dvS s) es N).length ≤ c9) ∧ (0 < c10 → A10 = some ⟨b10, 0, none⟩) ∧ (((es.take N).map cutE).length ≤ c10) ∧ (N ≤ nr) ∧ (N ≤ 20)) ?_ ?_
 ·
  intro Kj1 hKj1
  refine At.seq ?_
  refine At.region ?_
  refine At.p (some 11) (P_assign rfl rfl) ?_
  refine At.nil ?_
  refine At.next ?_
  refine At.block ?_
  have hr0 : (rcTo (dkS s) (dvS s) es 0).length = 0 := by rw [rcTo_0]; rfl
  refine At.empty 9 0 5 ?_
  refine At.empty 10 0 36 ?_
  refine At.loopx (I := fun m fr H => ∃ (i : Nat) (A9 : Option Addr) (b9 c9 : Nat) (A10 : Option Addr) (b10 c10 : Nat), m = 20 - i ∧ fr = frOf [(1, .slice A nr c), (2, iV n), (7, ptr b7 0), (8, ptr b8 0), (9, .slice A9 ((rcTo (dkS s) (dvS s) es i).length) c9), (10, .slice A10 (((es.take i).map cutE).length) c10), (11, iV (i : Int))] ∧ H = famsOf (hOf [(0, ⟨false, b, q, 0, (es).map BG.v, 0⟩), (7, ⟨true, b7, 0, 41, [(dkS s).map u8V, (dvS s).map u8V].flatten, 0⟩), (8, ⟨true, b8, 0, 24, [iV 0, iV (i : Int), iV ((uI i) : Int)], 0⟩), (9, ⟨true, b9, 0, 5, ((rcTo (dkS s) (dvS s) es i)).map u8V, c9 - ((rcTo (dkS s) (dvS s) es i)).length⟩), (10, ⟨true, b10, 0, 36, (((es.take i).map cutE)).map BG.v, c10 - (((es.take i).map cutE)).length⟩)]) [famR 100001 es] ∧ (0 < c9 → A9 = some ⟨b9, 0, none⟩) ∧ ((rcTo (dkS s) (dvS s) es i).length ≤ c9) ∧ (0 < c10 → A10 = some ⟨b10, 0, none⟩) ∧ (((es.take i).map cutE).length ≤ c10) ∧ (i ≤ 20) ∧ (i ≤ nr)) ?_ ?_
  ·
   intro Kc0 hKc0
   refine At.toM [(1, _), (2, _), (7, _), (8, _), (9, .slice none ((rcTo (dkS s) (dvS s) es 0).length) 0), (10, _), (11, _)] [(0, _), (7, _), (8, ⟨true, b8, 0, 24, [iV 0, iV (0 : Int), iV ((uI 0) : Int)], 0⟩), (9, ⟨true, 0, 0, 5, ((rcTo (dkS s) (dvS s) es 0)).map u8V, 0 - ((rcTo (dkS s) (dvS s) es 0)).length⟩), (10, _)] [famR 100001 es] (AllL.cons_ (rfl) (AllL.cons_ (rfl) (AllL.cons_ (rfl) (AllL.cons_ (rfl) (AllL.cons_ ((by rw [rcTo_0]; rfl)) (AllL.cons_ (rfl) (AllL.cons_ (rfl) trivial))))))) (AllL.cons_ (rfl) (AllL.cons_ (rfl) (AllL.cons_ ((by unfold uI; rfl)) (AllL.cons_ ((by rw [rcTo_0]; rfl)) (AllL.cons_ (rfl) trivial))))) (AllL.cons_ FK2 trivial) ?_
   exact hKc0 _ _ _ ⟨0, none, 0, 0, none, 0, 0, rfl, rfl, rfl, (fun h => absurd h (Nat.lt_irrefl 0)), (by first | exact Nat.le_refl _ | omega | (simp; done)), (fun h => absurd h (Nat.lt_irrefl 0)), (by first | exact Nat.le_refl _ | omega | (simp; done)), (by omega), (by omega)⟩
  ·
   rintro m fr H ⟨i, A9, b9, c9, A10, b10, c10, rfl, rfl, rfl, g9a, g9b, g10a, g10b, hi, hin⟩ Kc0 hKc0
   have huo := uI_ok (i := i) (by omega)
   have hun := uI_mono i
   have huo2 := uI_ok (i := i + 1) (by omega)
   have hwn := wN_u (i := i) (by omega)
   have hrl := rcTo_le (dkS s) (dvS s) es i
   refine At.seq ?_
   refine At.seq ?_
   refine At.region ?_
   refine At.p (some 33) (P_move rfl rfl) ?_
   refine At.p (some 34) (P_move rfl rfl) ?_
   refine At.p (some 35) (P_len_sl rfl rfl ⟨_, Tryd.underlying47⟩ rfl) ?_
   refine At.p (some 36) (P_cmp rfl rfl rfl rfl rfl rfl) ?_
   refine At.p (some 37) (P_move rfl rfl) ?_
   refine At.gsplit (t := 37) (want := true) rfl (fun g1 => ?_) (fun g1 => ?_)
   ·
    have eg1 : (i : Int) < (nr : Int) := of_decide_eq_true g1
    refine At.gy (t := 37) rfl g1 rfl rfl ?_
    refine At.p (some 38) (P_move rfl rfl) ?_
    refine At.gy (t := 37) rfl g1 rfl rfl ?_
    refine At.p (some 39) (P_cmp rfl rfl rfl rfl rfl rfl) ?_
    refine At.p (some 40) (P_pick_t rfl rfl g1 rfl) ?_
    refine At.nil ?_
    refine At.next ?_
    refine At.cond rfl (fun h40 => ?_) (fun h40 => ?_)
    · -- cond 40 t
     have e40 : (i : Int) < 20 := of_decide_eq_true h40
     refine At.skip ?_
     refine At.next ?_
     refine At.seq ?_
     refine At.block ?_
     refine At.seq ?_
     refine At.draws 9 [8] [.q false [0, 1, 2, 3, 4, 5], .q true [6], .e false 7, .e true 8] (by kernel_rfl) (by kernel_rfl) ?_
     refine At.wq (some 44) (Q_loadA (k := 8) rfl rfl Tryd.underlying24 rfl sz24 LN rfl) ?_
     refine At.wq (some 45) (Q_loadA (k := 8) rfl rfl Tryd.underlying24 rfl sz24 LN rfl) ?_
     refine At.wcV (some 46) [] (vs := [_, _]) rfl en10 rfl V0 (c_gW (e := 0) (n := i) (u := (uI i)) (m := 1) OG OG OG OG) ?_
     refine At.wcV (some 47) [] (vs := [_, _]) rfl en9 rfl V0 (c_gV (e := 0) (n := i) (u := (uI i)) (y := (wN i (uI i) 1)) OG OG OG OG OG OG) ?_
     refine At.wp (some 43) (P_move rfl rfl) ?_
     refine At.wp (some 48) (P_extract rfl rfl rfl) ?_
     refine At.wqn ?_
     refine At.wp (some 49) (P_extract rfl rfl rfl) ?_
     refine At.wqn ?_
     refine At.we ?_
     refine S_alloc (some 12) 12 (zs := [iV 0, iV 0, iV 0]) rfl ze24 rfl (fun b12 => ?_)
     refine At.we ?_
     refine S_storeA none (k := 12) (vs := [iV (0 : Int), iV (i : Int), iV ((wN i (uI i) 1) : Int)]) rfl rfl rfl (by rw [sz24]; exact congrArg some LN) rfl (one_cons rfl (one_cons rfl (one_cons rfl one_nil))) NG rfl LN ?_
     refine At.wt rfl ?_
     refine At.p (some 13) (P_assign rfl rfl) ?_
     refine At.nil ?_
     refine At.next ?_
     refine At.seq ?_
     refine At.seq ?_
     refine At.region ?_
     refine At.p (some 50) (P_move rfl rfl) ?_
     refine At.p (some 51) (P_cmp rfl rfl rfl rfl rfl rfl) ?_
     refine At.nil ?_
     refine At.next ?_
     refine At.cond rfl (fun h51 => by simp at h51) (fun h51 => ?_)
     have e51 : 0 = 0 := bne_eq_false_iff_eq.1 h51
     refine At.skip ?_
     refine At.next ?_
     refine At.seq ?_
     refine At.region ?_
     refine At.q (some 53) (Q_loadA (k := 12) rfl rfl Tryd.underlying24 rfl sz24 LN rfl) ?_
     refine At.s (S_callV (some 54) [] [] (vs := [_]) rfl en11 rfl V0 (by simp) (c_gU (e := 0) (n := i) (u := (wN i (uI i) 1)) OG OG OG OG) (by rintro _ _ ⟨rfl, rfl⟩; rfl) ?_)
     rintro _ _ ⟨rfl, rfl⟩
     refine At.p (some 52) (P_move rfl rfl) ?_
     refine At.p (some 55) (P_extract rfl rfl rfl) ?_
     refine At.p (some 56) (P_extract rfl rfl rfl) ?_
     refine At.p (some 57) (P_extract rfl rfl rfl) ?_
     refine At.s (S_storeA none (k := 12) (vs := [iV (0 : Int), iV ((i + 1 : Nat) : Int), iV ((wN i (uI i) 1) : Int)]) rfl rfl rfl (by rw [sz24]; exact congrArg some LN) rfl (one_cons rfl (one_cons rfl (one_cons rfl one_nil))) NG rfl LN ?_)
     refine At.p (some 14) (P_assign rfl rfl) ?_
     refine At.p (some 15) (P_assign rfl rfl) ?_
     refine At.nil ?_
     refine At.next ?_
     refine At.seq ?_
     have hil : i < es.length := by omega
     have hxo := hes _ (getDG_mem hil)
     have hxle := BG.leR hxo
     refine At.famSee 400 100001 es i rfl FK2 ?_
     refine At.seeTake 401 400 (min (es.getD i default).l.length 256 - 0) rfl ?_
     have hxt : min (es.getD i default).l.length 256 - 0 = ((es.getD i default).l.take (min (es.getD i default).l.length 256 - 0)).length := by rw [List.length_take]; omega
     refine At.draws 10 [] [.q false [0, 1, 2, 3, 4, 5, 6, 7, 8, 9]] (by kernel_rfl) (by kernel_rfl) ?_
     refine At.wp (some 58) (P_move rfl rfl) ?_
     refine At.wp (some 59) (P_move rfl rfl) ?_
     refine At.wp (some 60) (P_indexAddr_sl1 (b := b) (m := q) (j := i) rfl Tryd.underlying47 sz36 rfl (hA OG) rfl RO OG) ?_
     refine At.wq (some 61) (Q_loadR (k := 0) (f := BG.v) (l := es) (j := i) ((default : BG)) rfl rfl Tryd.underlying36 rfl rfl rfl OG) ?_
     refine At.wp (some 62) (P_move rfl rfl) ?_
     refine At.wp (some 63) (P_move rfl rfl) ?_
     refine At.wp (some 64) (P_indexAddr_sl1 (b := b) (m := q) (j := i) rfl Tryd.underlying47 sz36 rfl (hA OG) rfl RO OG) ?_
     refine At.wq (some 65) (Q_loadR (k := 0) (f := BG.v) (l := es) (j := i) ((default : BG)) rfl rfl Tryd.underlying36 rfl rfl rfl OG) ?_
     refine At.wp (some 66) (P_len_sl rfl rfl ⟨_, Tryd.underlying36⟩ rfl) ?_
     refine At.wp (some 67) (P_min2 rfl rfl rfl rfl) ?_
     refine At.wqn ?_
     refine At.wt rfl ?_
     refine At.p (some 68) (P_cast (congrArg (fun z => Value.slice (cut (es.getD i default).A 0 (es.getD i default).c 1) z ((es.getD i default).c - 0)) hxt) (P_slice_sl (l := 0) (h := (min (es.getD i default).l.length 256)) (m := (es.getD i default).c) rfl Tryd.underlying36 sz5 rfl rfl ⟨_, _, rfl, by omega⟩ rfl DO DO DO)) ?_
     refine At.p (some 16) (P_assign rfl rfl) ?_
     refine At.nil ?_
     refine At.next ?_
     refine At.seq ?_
     have hv : rsOk 23 ((es.getD i default).l.take (min (es.getD i default).l.length 256 - 0)).length 0 = true := rc_ok (es.getD i default)
     refine At.region ?_
     refine At.q (some 70) (Q_loadA (k := 7) rfl rfl Tryd.underlying41 rfl sz41 LN rfl) ?_
     refine At.p (some 71) (P_move rfl rfl) ?_
     refine At.p (some 72) (P_conv_iw UK.u64 rfl Tryd.underlying3 Tryd.underlying26 rfl) ?_
     refine At.p (some 73) (P_move rfl rfl) ?_
     refine At.s (S_callV (some 74) [(401, _)] [74] (vs := [_, _, _, _, _]) rfl en12 rfl (VN (by simp) rfl View.all V0) (by simp) (c_RSeal (key := (dkS s)) (iv := (dvS s)) (seq := (BitVec.ofInt 64 (i : Int))) (kd := 23) (txt := ((es.getD i default).l.take (min (es.getD i default).l.length 256 - 0))) (ntxt := (((es.getD i default).l.take (min (es.getD i default).l.length 256 - 0)).length)) (Atxt := (cut (es.getD i default).A 0 (es.getD i default).c 1)) (ctxt := ((es.getD i default).c - 0)) (btxt := ((es.getD i default).b)) (qtxt := ((es.getD i default).q)) (pad := 0) LN LN LN (fun h => cut_zero (BG.adrR hxo (by omega))) OG) (by rintro _ _ ⟨A74, b74, c74, g74a, g74b, rfl, rfl⟩; rfl) ?_)
     rintro _ _ ⟨A74, b74, c74, g74a, g74b, rfl, rfl⟩
     have := rsT_le (dkS s) (dvS s) (BitVec.ofInt 64 (i : Int)) 23 ((es.getD i default).l.take (min (es.getD i default).l.length 256 - 0)) 0
     refine At.p (some 69) (P_move rfl rfl) ?_
     refine At.p (some 75) (P_extract rfl rfl rfl) ?_
     refine At.p (some 76) (P_extract rfl rfl rfl) ?_
     refine At.p (some 17) (P_assign rfl rfl) ?_
     refine At.p (some 18) (P_assign rfl rfl) ?_
     refine At.nil ?_
     refine At.next ?_
     refine At.seq ?_
     refine At.seq ?_
     refine At.region ?_
     refine At.p (some 77) (P_move rfl rfl) ?_
     refine At.p (some 78) (P_cmp rfl rfl rfl rfl rfl rfl) ?_
     refine At.p (some 79) (P_move rfl rfl) ?_
     refine At.gy (t := 79) rfl (by first | rfl | (simp; done) | (simp; omega) | (simp only [rsE_t hv]; rfl)) rfl rfl ?_
     refine At.p (some 80) (P_move rfl rfl) ?_
     refine At.gy (t := 79) rfl (by first | rfl | (simp; done) | (simp; omega) | (simp only [rsE_t hv]; rfl)) rfl rfl ?_
     refine At.p (some 81) (P_cmp rfl rfl rfl rfl rfl rfl) ?_
     refine At.p (some 82) (P_pick_f rfl rfl (by first | rfl | (simp; done) | (simp; omega) | (simp only [rsE_t hv]; rfl)) rfl) ?_
     refine At.p (some 83) (P_move rfl rfl) ?_
     refine At.gy (t := 83) rfl (by first | rfl | (simp; done) | (simp; omega) | (simp only [rsE_t hv]; rfl)) rfl rfl ?_
     refine At.p (some 84) (P_move rfl rfl) ?_
     refine At.gy (t := 83) rfl (by first | rfl | (simp; done) | (simp; omega) | (simp only [rsE_t hv]; rfl)) rfl rfl ?_
     refine At.p (some 85) (P_move rfl rfl) ?_
     refine At.gy (t := 83) rfl (by first | rfl | (simp; done) | (simp; omega) | (simp only [rsE_t hv]; rfl)) rfl rfl ?_
     refine At.p (some 86) (P_cmp rfl rfl rfl rfl rfl rfl) ?_
     refine At.p (some 87) (P_pick_f rfl rfl (by first | rfl | (simp; done) | (simp; omega) | (simp only [rsE_t hv]; rfl)) rfl) ?_
     refine At.nil ?_
     refine At.next ?_
     refine At.cond rfl (fun h87 => (by simp [rsE_t hv] at h87)) (fun h87 => ?_)
     have e87 : (i : Int) = (i : Int) := bne_eq_false_iff_eq.1 h87
     refine At.skip ?_
     refine At.next ?_
     refine At.bBruteG [3, 7, 8] (fun fr H => ∃ (A91 : Option Addr) (b91 c91 : Nat) (b94 : Nat) (A95 : Option Addr) (b95 c95 : Nat), fr = frOf [(1, .slice A nr c), (2, iV n), (7, ptr b7 0), (8, ptr b8 0), (9, .slice A91 ((rcTo (dkS s) (dvS s) es (i + 1)).length) c91), (10, .slice A95 (((es.take (i + 1)).map cutE).length) c95), (11, iV (i : Int)), (38, iV (i : Int)), (39, .bool (decide ((i : Int) < 20))), (80, iV (rsE 23 ((es.getD i default).l.take (min (es.getD i default).l.length 256 - 0)).length 0)), (81, .bool ((rsE 23 ((es.getD i default).l.take (min (es.getD i default).l.length 256 - 0)).length 0) != 0)), (84, iV (i : Int)), (85, iV (i : Int)), (86, .bool ((i : Int) != (i : Int)))] ∧ H = famsOf (hOf [(0, ⟨false, b, q, 0, (es).map BG.v, 0⟩), (7, ⟨true, b7, 0, 41, [(dkS s).map u8V, (dvS s).map u8V].flatten, 0⟩), (8, ⟨true, b8, 0, 24, [iV (0 : Int), iV ((i + 1 : Nat) : Int), iV ((wN i (uI i) 1) : Int)], 0⟩), (9, ⟨true, b91, 0, 5, ((rcTo (dkS s) (dvS s) es (i + 1))).map u8V, c91 - ((rcTo (dkS s) (dvS s) es (i + 1))).length⟩), (10, ⟨true, b95, 0, 36, (((es.take (i + 1)).map cutE)).map BG.v, c95 - (((es.take (i + 1)).map cutE)).length⟩)]) [famR 100001 es] ∧ (0 < c91 → A91 = some ⟨b91, 0, none⟩) ∧ ((rcTo (dkS s) (dvS s) es (i + 1)).length ≤ c91) ∧ (0 < c95 → A95 = some ⟨b95, 0, none⟩) ∧ (((es.take (i + 1)).map cutE).length ≤ c95) ∧ True) (by kernel_rfl) ?_ ?_
     ·
      intro Kb hKb G hGi hGo
      have hG16_0 (A91 : Option Addr) (b91 c91 : Nat) (b94 : Nat) (A95 : Option Addr) (b95 c95 : Nat) (g91a : 0 < c91 → A91 = some ⟨b91, 0, none⟩) (g91b : (rcTo (dkS s) (dvS s) es (i + 1)).length ≤ c91) (g95a : 0 < c95 → A95 = some ⟨b95, 0, none⟩) (g95b : ((es.take (i + 1)).map cutE).length ≤ c95) : G 0 #[true, true, true, true, true, true, true, true, true, true, true] (frOf [(1, .slice A nr c), (2, iV n), (7, ptr b7 0), (8, ptr b8 0), (9, .slice A91 ((rcTo (dkS s) (dvS s) es (i + 1)).length) c91), (10, .slice A95 (((es.take (i + 1)).map cutE).length) c95), (11, iV (i : Int)), (38, iV (i : Int)), (39, .bool (decide ((i : Int) < 20))), (80, iV (rsE 23 ((es.getD i default).l.take (min (es.getD i default).l.length 256 - 0)).length 0)), (81, .bool ((rsE 23 ((es.getD i default).l.take (min (es.getD i default).l.length 256 - 0)).length 0) != 0)), (84, iV (i : Int)), (85, iV (i : Int)), (86, .bool ((i : Int) != (i : Int)))]) (famsOf (hOf [(0, ⟨false, b, q, 0, (es).map BG.v, 0⟩), (7, ⟨true, b7, 0, 41, [(dkS s).map u8V, (dvS s).map u8V].flatten, 0⟩), (8, ⟨true, b8, 0, 24, [iV (0 : Int), iV ((i + 1 : Nat) : Int), iV ((wN i (uI i) 1) : Int)], 0⟩), (9, ⟨true, b91, 0, 5, ((rcTo (dkS s) (dvS s) es (i + 1))).map u8V, c91 - ((rcTo (dkS s) (dvS s) es (i + 1))).length⟩), (10, ⟨true, b95, 0, 36, (((es.take (i + 1)).map cutE)).map BG.v, c95 - (((es.take (i + 1)).map cutE)).length⟩)]) [famR 100001 es]) := by
       refine hGo ?_
       refine At.bEnd (by kernel_rfl) ?_
       refine At.next ?_
       exact hKb _ _ ⟨A91, b91, c91, b94, A95, b95, c95, rfl, rfl, g91a, g91b, g95a, g95b, trivial⟩
      have hG16_1 (A91 : Option Addr) (b91 c91 : Nat) (b94 : Nat) (A95 : Option Addr) (b95 c95 : Nat) (g91a : 0 < c91 → A91 = some ⟨b91, 0, none⟩) (g91b : (rcTo (dkS s) (dvS s) es (i + 1)).length ≤ c91) (g95a : 0 < c95 → A95 = some ⟨b95, 0, none⟩) (g95b : ((es.take (i + 1)).map cutE).length ≤ c95) : G 3 #[true, true, true, true, true, true, true, true, false, false, false] (frOf [(1, .slice A nr c), (2, iV n), (7, ptr b7 0), (8, ptr b8 0), (9, .slice A9 ((rcTo (dkS s) (dvS s) es i).length) c9), (10, .slice A10 (((es.take i).map cutE).length) c10), (11, iV (i : Int)), (38, iV (i : Int)), (39, .bool (decide ((i : Int) < 20))), (80, iV (rsE 23 ((es.getD i default).l.take (min (es.getD i default).l.length 256 - 0)).length 0)), (81, .bool ((rsE 23 ((es.getD i default).l.take (min (es.getD i default).l.length 256 - 0)).length 0) != 0)), (84, iV (i : Int)), (85, iV (i : Int)), (86, .bool ((i : Int) != (i : Int))), (88, .agg ([iV (0 : Int), iV ((i + 1 : Nat) : Int), iV ((wN i (uI i) 1) : Int)]).toArray), (91, .slice A91 ((rcTo (dkS s) (dvS s) es (i + 1)).length) c91), (95, .slice A95 (((es.take (i + 1)).map cutE).length) c95)]) (famsOf (hOf [(0, ⟨false, b, q, 0, (es).map BG.v, 0⟩), (7, ⟨true, b7, 0, 41, [(dkS s).map u8V, (dvS s).map u8V].flatten, 0⟩), (8, ⟨true, b8, 0, 24, [iV 0, iV (i : Int), iV ((uI i) : Int)], 0⟩), (9, ⟨true, b91, 0, 5, ((rcTo (dkS s) (dvS s) es (i + 1))).map u8V, c91 - ((rcTo (dkS s) (dvS s) es (i + 1))).length⟩), (10, ⟨true, b95, 0, 36, (((es.take (i + 1)).map cutE)).map BG.v, c95 - (((es.take (i + 1)).map cutE)).length⟩)]) [famR 100001 es]) := by
       refine hGo ?_
       refine At.bStep [8] (by kernel_rfl) (by simp) ?_
       refine At.bS true (by kernel_rfl) (S_storeA none (k := 8) (vs := [iV (0 : Int), iV ((i + 1 : Nat) : Int), iV ((wN i (uI i) 1) : Int)]) rfl rfl rfl (by rw [sz24]; exact congrArg some LN) rfl (one_cons rfl (one_cons rfl (one_cons rfl one_nil))) NG rfl LN ?_)
       refine At.bP  9 (some 9) (P_assign rfl rfl) (by kernel_rfl) (by kernel_rfl) ?_
       refine At.bP  10 (some 10) (P_assign rfl rfl) (by kernel_rfl) (by kernel_rfl) ?_
       exact At.intoF (hGi (hG16_0 A91 b91 c91 b94 A95 b95 c95 g91a g91b g95a g95b)) rfl rfl (AllL.cons_ FK2 trivial)
      have hG16_2 (A91 : Option Addr) (b91 c91 : Nat) (b94 : Nat) (g91a : 0 < c91 → A91 = some ⟨b91, 0, none⟩) (g91b : (rcTo (dkS s) (dvS s) es (i + 1)).length ≤ c91) : G 4 #[true, true, true, true, true, true, true, false, false, false, false] (frOf [(1, .slice A nr c), (2, iV n), (7, ptr b7 0), (8, ptr b8 0), (9, .slice A9 ((rcTo (dkS s) (dvS s) es i).length) c9), (10, .slice A10 (((es.take i).map cutE).length) c10), (11, iV (i : Int)), (38, iV (i : Int)), (39, .bool (decide ((i : Int) < 20))), (80, iV (rsE 23 ((es.getD i default).l.take (min (es.getD i default).l.length 256 - 0)).length 0)), (81, .bool ((rsE 23 ((es.getD i default).l.take (min (es.getD i default).l.length 256 - 0)).length 0) != 0)), (84, iV (i : Int)), (85, iV (i : Int)), (86, .bool ((i : Int) != (i : Int))), (88, .agg ([iV (0 : Int), iV ((i + 1 : Nat) : Int), iV ((wN i (uI i) 1) : Int)]).toArray), (91, .slice A91 ((rcTo (dkS s) (dvS s) es (i + 1)).length) c91), (92, .slice A10 (((es.take i).map cutE).length) c10), (94, .slice (some ⟨b94, 0, none⟩) 1 1)]) (famsOf (hOf [(0, ⟨false, b, q, 0, (es).map BG.v, 0⟩), (7, ⟨true, b7, 0, 41, [(dkS s).map u8V, (dvS s).map u8V].flatten, 0⟩), (8, ⟨true, b8, 0, 24, [iV 0, iV (i : Int), iV ((uI i) : Int)], 0⟩), (9, ⟨true, b91, 0, 5, ((rcTo (dkS s) (dvS s) es (i + 1))).map u8V, c91 - ((rcTo (dkS s) (dvS s) es (i + 1))).length⟩), (10, ⟨true, b10, 0, 36, (((es.take i).map cutE)).map BG.v, c10 - (((es.take i).map cutE)).length⟩), (94, ⟨true, b94, 0, 36, ([(bG (cut (es.getD i default).A 0 (es.getD i default).c 1) ((es.getD i default).b) ((es.getD i default).c - 0) ((es.getD i default).l.take (min (es.getD i default).l.length 256 - 0)))]).map BG.v, 0⟩)]) [famR 100001 es]) := by
       clear hG16_0
       refine hGo ?_
       refine At.bStep [7] (by kernel_rfl) (by simp) ?_
       refine At.bS true (by kernel_rfl) (S_appendM (some 95) 10 (((es.take (i + 1)).map cutE)) (f := BG.v) (l := ((es.take i).map cutE)) (L := [(bG (cut (es.getD i default).A 0 (es.getD i default).c 1) ((es.getD i default).b) ((es.getD i default).c - 0) ((es.getD i default).l.take (min (es.getD i default).l.length 256 - 0)))]) (m := 1) rfl Tryd.underlying47 Tryd.underlying47 (.inr ⟨_, rfl⟩) sz36 by36 ze36 rfl rfl (fun h => ⟨g10a h, rfl⟩) LN OG (Src.all (k := 94) (l := [(bG (cut (es.getD i default).A 0 (es.getD i default).c 1) ((es.getD i default).b) ((es.getD i default).c - 0) ((es.getD i default).l.take (min (es.getD i default).l.length 256 - 0)))]) rfl (fun _ => rfl) (fun _ => ⟨rfl, rfl, rfl⟩) LN) (fun _ => rfl) OG OG (want_step hil) LN ?_)
       intro A95 b95 c95 g95a g95b
       exact At.intoF (hGi (hG16_1 A91 b91 c91 b94 A95 b95 c95 g91a g91b g95a g95b)) rfl rfl (AllL.cons_ FK2 trivial)
      have hG16_3 (A91 : Option Addr) (b91 c91 : Nat) (g91a : 0 < c91 → A91 = some ⟨b91, 0, none⟩) (g91b : (rcTo (dkS s) (dvS s) es (i + 1)).length ≤ c91) : G 5 #[true, true, true, true, true, true, false, false, false, false, false] (frOf [(1, .slice A nr c), (2, iV n), (7, ptr b7 0), (8, ptr b8 0), (9, .slice A9 ((rcTo (dkS s) (dvS s) es i).length) c9), (10, .slice A10 (((es.take i).map cutE).length) c10), (11, iV (i : Int)), (38, iV (i : Int)), (39, .bool (decide ((i : Int) < 20))), (80, iV (rsE 23 ((es.getD i default).l.take (min (es.getD i default).l.length 256 - 0)).length 0)), (81, .bool ((rsE 23 ((es.getD i default).l.take (min (es.getD i default).l.length 256 - 0)).length 0) != 0)), (84, iV (i : Int)), (85, iV (i : Int)), (86, .bool ((i : Int) != (i : Int))), (88, .agg ([iV (0 : Int), iV ((i + 1 : Nat) : Int), iV ((wN i (uI i) 1) : Int)]).toArray), (91, .slice A91 ((rcTo (dkS s) (dvS s) es (i + 1)).length) c91), (92, .slice A10 (((es.take i).map cutE).length) c10), (93, .slice (cut (es.getD i default).A 0 (es.getD i default).c 1) (((es.getD i default).l.take (min (es.getD i default).l.length 256 - 0)).length) ((es.getD i default).c - 0))]) (famsOf (hOf [(0, ⟨false, b, q, 0, (es).map BG.v, 0⟩), (7, ⟨true, b7, 0, 41, [(dkS s).map u8V, (dvS s).map u8V].flatten, 0⟩), (8, ⟨true, b8, 0, 24, [iV 0, iV (i : Int), iV ((uI i) : Int)], 0⟩), (9, ⟨true, b91, 0, 5, ((rcTo (dkS s) (dvS s) es (i + 1))).map u8V, c91 - ((rcTo (dkS s) (dvS s) es (i + 1))).length⟩), (10, ⟨true, b10, 0, 36, (((es.take i).map cutE)).map BG.v, c10 - (((es.take i).map cutE)).length⟩), (401, pRow ((es.getD i default).b) ((es.getD i default).q) ((es.getD i default).l.take (min (es.getD i default).l.length 256 - 0)))]) [famR 100001 es]) := by
       clear hG16_0 hG16_1
       refine hGo ?_
       refine At.bStep [6] (by kernel_rfl) (by simp) ?_
       refine At.bS false (by kernel_rfl) (S_buildSliceV (some 94) 94 (([(bG (cut (es.getD i default).A 0 (es.getD i default).c 1) ((es.getD i default).b) ((es.getD i default).c - 0) ((es.getD i default).l.take (min (es.getD i default).l.length 256 - 0)))]).map BG.v) rfl Tryd.underlying47 sz36 ze36 rfl rfl (by decide) (by decide) rfl rfl (fun b94 => ?_))
       exact At.intoF (hGi (hG16_2 A91 b91 c91 b94 g91a g91b)) rfl rfl (AllL.cons_ FK2 trivial)
      have hG16_4 (b94 : Nat) : G 5 #[true, true, true, false, true, true, true, false, false, false, false] (frOf [(1, .slice A nr c), (2, iV n), (7, ptr b7 0), (8, ptr b8 0), (9, .slice A9 ((rcTo (dkS s) (dvS s) es i).length) c9), (10, .slice A10 (((es.take i).map cutE).length) c10), (11, iV (i : Int)), (38, iV (i : Int)), (39, .bool (decide ((i : Int) < 20))), (80, iV (rsE 23 ((es.getD i default).l.take (min (es.getD i default).l.length 256 - 0)).length 0)), (81, .bool ((rsE 23 ((es.getD i default).l.take (min (es.getD i default).l.length 256 - 0)).length 0) != 0)), (84, iV (i : Int)), (85, iV (i : Int)), (86, .bool ((i : Int) != (i : Int))), (88, .agg ([iV (0 : Int), iV ((i + 1 : Nat) : Int), iV ((wN i (uI i) 1) : Int)]).toArray), (89, .slice A9 ((rcTo (dkS s) (dvS s) es i).length) c9), (90, .slice A74 ((rsT (dkS s) (dvS s) (BitVec.ofInt 64 (i : Int)) 23 ((es.getD i default).l.take (min (es.getD i default).l.length 256 - 0)) 0).length) c74), (92, .slice A10 (((es.take i).map cutE).length) c10), (94, .slice (some ⟨b94, 0, none⟩) 1 1)]) (famsOf (hOf [(0, ⟨false, b, q, 0, (es).map BG.v, 0⟩), (7, ⟨true, b7, 0, 41, [(dkS s).map u8V, (dvS s).map u8V].flatten, 0⟩), (8, ⟨true, b8, 0, 24, [iV 0, iV (i : Int), iV ((uI i) : Int)], 0⟩), (9, ⟨true, b9, 0, 5, ((rcTo (dkS s) (dvS s) es i)).map u8V, c9 - ((rcTo (dkS s) (dvS s) es i)).length⟩), (10, ⟨true, b10, 0, 36, (((es.take i).map cutE)).map BG.v, c10 - (((es.take i).map cutE)).length⟩), (74, ⟨true, b74, 0, 5, (rsT (dkS s) (dvS s) (BitVec.ofInt 64 (i : Int)) 23 ((es.getD i default).l.take (min (es.getD i default).l.length 256 - 0)) 0).map u8V, c74 - (rsT (dkS s) (dvS s) (BitVec.ofInt 64 (i : Int)) 23 ((es.getD i default).l.take (min (es.getD i default).l.length 256 - 0)) 0).length⟩), (94, ⟨true, b94, 0, 36, ([(bG (cut (es.getD i default).A 0 (es.getD i default).c 1) ((es.getD i default).b) ((es.getD i default).c - 0) ((es.getD i default).l.take (min (es.getD i default).l.length 256 - 0)))]).map BG.v, 0⟩)]) [famR 100001 es]) := by
       clear hG16_0 hG16_1 hG16_3
       refine hGo ?_
       refine At.bStep [3] (by kernel_rfl) (by simp) ?_
       refine At.bS true (by kernel_rfl) (S_appendM (some 91) 9 ((rcTo (dkS s) (dvS s) es (i + 1))) (f := u8V) (l := (rcTo (dkS s) (dvS s) es i)) (L := (rsT (dkS s) (dvS s) (BitVec.ofInt 64 (i : Int)) 23 ((es.getD i default).l.take (min (es.getD i default).l.length 256 - 0)) 0)) (m := ((rsT (dkS s) (dvS s) (BitVec.ofInt 64 (i : Int)) 23 ((es.getD i default).l.take (min (es.getD i default).l.length 256 - 0)) 0).length)) rfl Tryd.underlying36 Tryd.underlying36 (.inr ⟨_, rfl⟩) sz5 by5 ze5 rfl rfl (fun h => ⟨g9a h, rfl⟩) LN OG (Src.all (k := 74) (l := (rsT (dkS s) (dvS s) (BitVec.ofInt 64 (i : Int)) 23 ((es.getD i default).l.take (min (es.getD i default).l.length 256 - 0)) 0)) rfl (fun h => g74a (by omega)) (fun _ => ⟨rfl, rfl, rfl⟩) LN) (fun _ => rfl) OG OG (rc_step _ _ _ _) LN ?_)
       intro A91 b91 c91 g91a g91b
       exact At.intoF (hGi (hG16_2 A91 b91 c91 b94 g91a g91b)) rfl rfl (AllL.cons_ FK2 trivial)
      have hG16_5 (A91 : Option Addr) (b91 c91 : Nat) (b94 : Nat) (g91a : 0 < c91 → A91 = some ⟨b91, 0, none⟩) (g91b : (rcTo (dkS s) (dvS s) es (i + 1)).length ≤ c91) : G 5 #[false, true, true, true, true, true, true, false, false, false, false] (frOf [(1, .slice A nr c), (2, iV n), (7, ptr b7 0), (8, ptr b8 0), (9, .slice A9 ((rcTo (dkS s) (dvS s) es i).length) c9), (10, .slice A10 (((es.take i).map cutE).length) c10), (11, iV (i : Int)), (12, ptr b12 0), (38, iV (i : Int)), (39, .bool (decide ((i : Int) < 20))), (80, iV (rsE 23 ((es.getD i default).l.take (min (es.getD i default).l.length 256 - 0)).length 0)), (81, .bool ((rsE 23 ((es.getD i default).l.take (min (es.getD i default).l.length 256 - 0)).length 0) != 0)), (84, iV (i : Int)), (85, iV (i : Int)), (86, .bool ((i : Int) != (i : Int))), (91, .slice A91 ((rcTo (dkS s) (dvS s) es (i + 1)).length) c91), (92, .slice A10 (((es.take i).map cutE).length) c10), (94, .slice (some ⟨b94, 0, none⟩) 1 1)]) (famsOf (hOf [(0, ⟨false, b, q, 0, (es).map BG.v, 0⟩), (7, ⟨true, b7, 0, 41, [(dkS s).map u8V, (dvS s).map u8V].flatten, 0⟩), (8, ⟨true, b8, 0, 24, [iV 0, iV (i : Int), iV ((uI i) : Int)], 0⟩), (9, ⟨true, b91, 0, 5, ((rcTo (dkS s) (dvS s) es (i + 1))).map u8V, c91 - ((rcTo (dkS s) (dvS s) es (i + 1))).length⟩), (10, ⟨true, b10, 0, 36, (((es.take i).map cutE)).map BG.v, c10 - (((es.take i).map cutE)).length⟩), (12, ⟨true, b12, 0, 24, [iV (0 : Int), iV ((i + 1 : Nat) : Int), iV ((wN i (uI i) 1) : Int)], 0⟩), (94, ⟨true, b94, 0, 36, ([(bG (cut (es.getD i default).A 0 (es.getD i default).c 1) ((es.getD i default).b) ((es.getD i default).c - 0) ((es.getD i default).l.take (min (es.getD i default).l.length 256 - 0)))]).map BG.v, 0⟩)]) [famR 100001 es]) := by
       clear hG16_0 hG16_3 hG16_4
       refine hGo ?_
       refine At.bStep [0, 7] (by kernel_rfl) (by simp) ?_
       refine ⟨?_, ?_⟩
       ·
        refine At.bSQ (some 88) (Q_loadA (k := 12) rfl rfl Tryd.underlying24 rfl sz24 LN rfl) ?_
        exact At.intoF (hGi (hG16_2 A91 b91 c91 b94 g91a g91b)) rfl rfl (AllL.cons_ FK2 trivial)
       ·
        refine At.bS true (by kernel_rfl) (S_appendM (some 95) 10 (((es.take (i + 1)).map cutE)) (f := BG.v) (l := ((es.take i).map cutE)) (L := [(bG (cut (es.getD i default).A 0 (es.getD i default).c 1) ((es.getD i default).b) ((es.getD i default).c - 0) ((es.getD i default).l.take (min (es.getD i default).l.length 256 - 0)))]) (m := 1) rfl Tryd.underlying47 Tryd.underlying47 (.inr ⟨_, rfl⟩) sz36 by36 ze36 rfl rfl (fun h => ⟨g10a h, rfl⟩) LN OG (Src.all (k := 94) (l := [(bG (cut (es.getD i default).A 0 (es.getD i default).c 1) ((es.getD i default).b) ((es.getD i default).c - 0) ((es.getD i default).l.take (min (es.getD i default).l.length 256 - 0)))]) rfl (fun _ => rfl) (fun _ => ⟨rfl, rfl, rfl⟩) LN) (fun _ => rfl) OG OG (want_step hil) LN ?_)
        intro A95 b95 c95 g95a g95b
        refine At.bQ  0 (some 88) (Q_loadA (k := 12) rfl rfl Tryd.underlying24 rfl sz24 LN rfl) (by kernel_rfl) (by kernel_rfl) ?_
        exact At.intoF (hGi (hG16_1 A91 b91 c91 b94 A95 b95 c95 g91a g91b g95a g95b)) rfl rfl (AllL.cons_ FK2 trivial)
      have hG16_6  : G 6 #[true, true, true, false, true, true, false, false, false, false, false] (frOf [(1, .slice A nr c), (2, iV n), (7, ptr b7 0), (8, ptr b8 0), (9, .slice A9 ((rcTo (dkS s) (dvS s) es i).length) c9), (10, .slice A10 (((es.take i).map cutE).length) c10), (11, iV (i : Int)), (38, iV (i : Int)), (39, .bool (decide ((i : Int) < 20))), (80, iV (rsE 23 ((es.getD i default).l.take (min (es.getD i default).l.length 256 - 0)).length 0)), (81, .bool ((rsE 23 ((es.getD i default).l.take (min (es.getD i default).l.length 256 - 0)).length 0) != 0)), (84, iV (i : Int)), (85, iV (i : Int)), (86, .bool ((i : Int) != (i : Int))), (88, .agg ([iV (0 : Int), iV ((i + 1 : Nat) : Int), iV ((wN i (uI i) 1) : Int)]).toArray), (89, .slice A9 ((rcTo (dkS s) (dvS s) es i).length) c9), (90, .slice A74 ((rsT (dkS s) (dvS s) (BitVec.ofInt 64 (i : Int)) 23 ((es.getD i default).l.take (min (es.getD i default).l.length 256 - 0)) 0).length) c74), (92, .slice A10 (((es.take i).map cutE).length) c10), (93, .slice (cut (es.getD i default).A 0 (es.getD i default).c 1) (((es.getD i default).l.take (min (es.getD i default).l.length 256 - 0)).length) ((es.getD i default).c - 0))]) (famsOf (hOf [(0, ⟨false, b, q, 0, (es).map BG.v, 0⟩), (7, ⟨true, b7, 0, 41, [(dkS s).map u8V, (dvS s).map u8V].flatten, 0⟩), (8, ⟨true, b8, 0, 24, [iV 0, iV (i : Int), iV ((uI i) : Int)], 0⟩), (9, ⟨true, b9, 0, 5, ((rcTo (dkS s) (dvS s) es i)).map u8V, c9 - ((rcTo (dkS s) (dvS s) es i)).length⟩), (10, ⟨true, b10, 0, 36, (((es.take i).map cutE)).map BG.v, c10 - (((es.take i).map cutE)).length⟩), (74, ⟨true, b74, 0, 5, (rsT (dkS s) (dvS s) (BitVec.ofInt 64 (i : Int)) 23 ((es.getD i default).l.take (min (es.getD i default).l.length 256 - 0)) 0).map u8V, c74 - (rsT (dkS s) (dvS s) (BitVec.ofInt 64 (i : Int)) 23 ((es.getD i default).l.take (min (es.getD i default).l.length 256 - 0)) 0).length⟩), (401, pRow ((es.getD i default).b) ((es.getD i default).q) ((es.getD i default).l.take (min (es.getD i default).l.length 256 - 0)))]) [famR 100001 es]) := by
       clear hG16_0 hG16_1 hG16_2 hG16_5
       refine hGo ?_
       refine At.bStep [3, 6] (by kernel_rfl) (by simp) ?_
       refine ⟨?_, ?_⟩
       ·
        refine At.bS true (by kernel_rfl) (S_appendM (some 91) 9 ((rcTo (dkS s) (dvS s) es (i + 1))) (f := u8V) (l := (rcTo (dkS s) (dvS s) es i)) (L := (rsT (dkS s) (dvS s) (BitVec.ofInt 64 (i : Int)) 23 ((es.getD i default).l.take (min (es.getD i default).l.length 256 - 0)) 0)) (m := ((rsT (dkS s) (dvS s) (BitVec.ofInt 64 (i : Int)) 23 ((es.getD i default).l.take (min (es.getD i default).l.length 256 - 0)) 0).length)) rfl Tryd.underlying36 Tryd.underlying36 (.inr ⟨_, rfl⟩) sz5 by5 ze5 rfl rfl (fun h => ⟨g9a h, rfl⟩) LN OG (Src.all (k := 74) (l := (rsT (dkS s) (dvS s) (BitVec.ofInt 64 (i : Int)) 23 ((es.getD i default).l.take (min (es.getD i default).l.length 256 - 0)) 0)) rfl (fun h => g74a (by omega)) (fun _ => ⟨rfl, rfl, rfl⟩) LN) (fun _ => rfl) OG OG (rc_step _ _ _ _) LN ?_)
        intro A91 b91 c91 g91a g91b
        exact At.intoF (hGi (hG16_3 A91 b91 c91 g91a g91b)) rfl rfl (AllL.cons_ FK2 trivial)
       ·
        refine At.bS false (by kernel_rfl) (S_buildSliceV (some 94) 94 (([(bG (cut (es.getD i default).A 0 (es.getD i default).c 1) ((es.getD i default).b) ((es.getD i default).c - 0) ((es.getD i default).l.take (min (es.getD i default).l.length 256 - 0)))]).map BG.v) rfl Tryd.underlying47 sz36 ze36 rfl rfl (by decide) (by decide) rfl rfl (fun b94 => ?_))
        exact At.intoF (hGi (hG16_4 b94)) rfl rfl (AllL.cons_ FK2 trivial)
      have hG16_7 (A91 : Option Addr) (b91 c91 : Nat) (g91a : 0 < c91 → A91 = some ⟨b91, 0, none⟩) (g91b : (rcTo (dkS s) (dvS s) es (i + 1)).length ≤ c91) : G 6 #[false, true, true, true, true, true, false, false, false, false, false] (frOf [(1, .slice A nr c), (2, iV n), (7, ptr b7 0), (8, ptr b8 0), (9, .slice A9 ((rcTo (dkS s) (dvS s) es i).length) c9), (10, .slice A10 (((es.take i).map cutE).length) c10), (11, iV (i : Int)), (12, ptr b12 0), (38, iV (i : Int)), (39, .bool (decide ((i : Int) < 20))), (80, iV (rsE 23 ((es.getD i default).l.take (min (es.getD i default).l.length 256 - 0)).length 0)), (81, .bool ((rsE 23 ((es.getD i default).l.take (min (es.getD i default).l.length 256 - 0)).length 0) != 0)), (84, iV (i : Int)), (85, iV (i : Int)), (86, .bool ((i : Int) != (i : Int))), (91, .slice A91 ((rcTo (dkS s) (dvS s) es (i + 1)).length) c91), (92, .slice A10 (((es.take i).map cutE).length) c10), (93, .slice (cut (es.getD i default).A 0 (es.getD i default).c 1) (((es.getD i default).l.take (min (es.getD i default).l.length 256 - 0)).length) ((es.getD i default).c - 0))]) (famsOf (hOf [(0, ⟨false, b, q, 0, (es).map BG.v, 0⟩), (7, ⟨true, b7, 0, 41, [(dkS s).map u8V, (dvS s).map u8V].flatten, 0⟩), (8, ⟨true, b8, 0, 24, [iV 0, iV (i : Int), iV ((uI i) : Int)], 0⟩), (9, ⟨true, b91, 0, 5, ((rcTo (dkS s) (dvS s) es (i + 1))).map u8V, c91 - ((rcTo (dkS s) (dvS s) es (i + 1))).length⟩), (10, ⟨true, b10, 0, 36, (((es.take i).map cutE)).map BG.v, c10 - (((es.take i).map cutE)).length⟩), (12, ⟨true, b12, 0, 24, [iV (0 : Int), iV ((i + 1 : Nat) : Int), iV ((wN i (uI i) 1) : Int)], 0⟩), (401, pRow ((es.getD i default).b) ((es.getD i default).q) ((es.getD i default).l.take (min (es.getD i default).l.length 256 - 0)))]) [famR 100001 es]) := by
       clear hG16_0 hG16_1 hG16_2 hG16_4 hG16_6
       refine hGo ?_
       refine At.bStep [0, 6] (by kernel_rfl) (by simp) ?_
       refine ⟨?_, ?_⟩
       ·
        refine At.bSQ (some 88) (Q_loadA (k := 12) rfl rfl Tryd.underlying24 rfl sz24 LN rfl) ?_
        exact At.intoF (hGi (hG16_3 A91 b91 c91 g91a g91b)) rfl rfl (AllL.cons_ FK2 trivial)
       ·
        refine At.bS false (by kernel_rfl) (S_buildSliceV (some 94) 94 (([(bG (cut (es.getD i default).A 0 (es.getD i default).c 1) ((es.getD i default).b) ((es.getD i default).c - 0) ((es.getD i default).l.take (min (es.getD i default).l.length 256 - 0)))]).map BG.v) rfl Tryd.underlying47 sz36 ze36 rfl rfl (by decide) (by decide) rfl rfl (fun b94 => ?_))
        exact At.intoF (hGi (hG16_5 A91 b91 c91 b94 g91a g91b)) rfl rfl (AllL.cons_ FK2 trivial)
      have hG16_8 (b94 : Nat) : G 6 #[false, true, true, false, true, true, true, false, false, false, false] (frOf [(1, .slice A nr c), (2, iV n), (7, ptr b7 0), (8, ptr b8 0), (9, .slice A9 ((rcTo (dkS s) (dvS s) es i).length) c9), (10, .slice A10 (((es.take i).map cutE).length) c10), (11, iV (i : Int)), (12, ptr b12 0), (38, iV (i : Int)), (39, .bool (decide ((i : Int) < 20))), (80, iV (rsE 23 ((es.getD i default).l.take (min (es.getD i default).l.length 256 - 0)).length 0)), (81, .bool ((rsE 23 ((es.getD i default).l.take (min (es.getD i default).l.length 256 - 0)).length 0) != 0)), (84, iV (i : Int)), (85, iV (i : Int)), (86, .bool ((i : Int) != (i : Int))), (89, .slice A9 ((rcTo (dkS s) (dvS s) es i).length) c9), (90, .slice A74 ((rsT (dkS s) (dvS s) (BitVec.ofInt 64 (i : Int)) 23 ((es.getD i default).l.take (min (es.getD i default).l.length 256 - 0)) 0).length) c74), (92, .slice A10 (((es.take i).map cutE).length) c10), (94, .slice (some ⟨b94, 0, none⟩) 1 1)]) (famsOf (hOf [(0, ⟨false, b, q, 0, (es).map BG.v, 0⟩), (7, ⟨true, b7, 0, 41, [(dkS s).map u8V, (dvS s).map u8V].flatten, 0⟩), (8, ⟨true, b8, 0, 24, [iV 0, iV (i : Int), iV ((uI i) : Int)], 0⟩), (9, ⟨true, b9, 0, 5, ((rcTo (dkS s) (dvS s) es i)).map u8V, c9 - ((rcTo (dkS s) (dvS s) es i)).length⟩), (10, ⟨true, b10, 0, 36, (((es.take i).map cutE)).map BG.v, c10 - (((es.take i).map cutE)).length⟩), (12, ⟨true, b12, 0, 24, [iV (0 : Int), iV ((i + 1 : Nat) : Int), iV ((wN i (uI i) 1) : Int)], 0⟩), (74, ⟨true, b74, 0, 5, (rsT (dkS s) (dvS s) (BitVec.ofInt 64 (i : Int)) 23 ((es.getD i default).l.take (min (es.getD i default).l.length 256 - 0)) 0).map u8V, c74 - (rsT (dkS s) (dvS s) (BitVec.ofInt 64 (i : Int)) 23 ((es.getD i default).l.take (min (es.getD i default).l.length 256 - 0)) 0).length⟩), (94, ⟨true, b94, 0, 36, ([(bG (cut (es.getD i default).A 0 (es.getD i default).c 1) ((es.getD i default).b) ((es.getD i default).c - 0) ((es.getD i default).l.take (min (es.getD i default).l.length 256 - 0)))]).map BG.v, 0⟩)]) [famR 100001 es]) := by
       clear hG16_0 hG16_1 hG16_2 hG16_3 hG16_6 hG16_7
       refine hGo ?_
       refine At.bStep [0, 3] (by kernel_rfl) (by simp) ?_
       refine ⟨?_, ?_⟩
       ·
        refine At.bSQ (some 88) (Q_loadA (k := 12) rfl rfl Tryd.underlying24 rfl sz24 LN rfl) ?_
        exact At.intoF (hGi (hG16_4 b94)) rfl rfl (AllL.cons_ FK2 trivial)
       ·
        refine At.bS true (by kernel_rfl) (S_appendM (some 91) 9 ((rcTo (dkS s) (dvS s) es (i + 1))) (f := u8V) (l := (rcTo (dkS s) (dvS s) es i)) (L := (rsT (dkS s) (dvS s) (BitVec.ofInt 64 (i : Int)) 23 ((es.getD i default).l.take (min (es.getD i default).l.length 256 - 0)) 0)) (m := ((rsT (dkS s) (dvS s) (BitVec.ofInt 64 (i : Int)) 23 ((es.getD i default).l.take (min (es.getD i default).l.length 256 - 0)) 0).length)) rfl Tryd.underlying36 Tryd.underlying36 (.inr ⟨_, rfl⟩) sz5 by5 ze5 rfl rfl (fun h => ⟨g9a h, rfl⟩) LN OG (Src.all (k := 74) (l := (rsT (dkS s) (dvS s) (BitVec.ofInt 64 (i : Int)) 23 ((es.getD i default).l.take (min (es.getD i default).l.length 256 - 0)) 0)) rfl (fun h => g74a (by omega)) (fun _ => ⟨rfl, rfl, rfl⟩) LN) (fun _ => rfl) OG OG (rc_step _ _ _ _) LN ?_)
        intro A91 b91 c91 g91a g91b
        exact At.intoF (hGi (hG16_5 A91 b91 c91 b94 g91a g91b)) rfl rfl (AllL.cons_ FK2 trivial)
      have hG16_9  : G 7 #[false, true, true, false, true, true, false, false, false, false, false] (frOf [(1, .slice A nr c), (2, iV n), (7, ptr b7 0), (8, ptr b8 0), (9, .slice A9 ((rcTo (dkS s) (dvS s) es i).length) c9), (10, .slice A10 (((es.take i).map cutE).length) c10), (11, iV (i : Int)), (12, ptr b12 0), (38, iV (i : Int)), (39, .bool (decide ((i : Int) < 20))), (80, iV (rsE 23 ((es.getD i default).l.take (min (es.getD i default).l.length 256 - 0)).length 0)), (81, .bool ((rsE 23 ((es.getD i default).l.take (min (es.getD i default).l.length 256 - 0)).length 0) != 0)), (84, iV (i : Int)), (85, iV (i : Int)), (86, .bool ((i : Int) != (i : Int))), (89, .slice A9 ((rcTo (dkS s) (dvS s) es i).length) c9), (90, .slice A74 ((rsT (dkS s) (dvS s) (BitVec.ofInt 64 (i : Int)) 23 ((es.getD i default).l.take (min (es.getD i default).l.length 256 - 0)) 0).length) c74), (92, .slice A10 (((es.take i).map cutE).length) c10), (93, .slice (cut (es.getD i default).A 0 (es.getD i default).c 1) (((es.getD i default).l.take (min (es.getD i default).l.length 256 - 0)).length) ((es.getD i default).c - 0))]) (famsOf (hOf [(0, ⟨false, b, q, 0, (es).map BG.v, 0⟩), (7, ⟨true, b7, 0, 41, [(dkS s).map u8V, (dvS s).map u8V].flatten, 0⟩), (8, ⟨true, b8, 0, 24, [iV 0, iV (i : Int), iV ((uI i) : Int)], 0⟩), (9, ⟨true, b9, 0, 5, ((rcTo (dkS s) (dvS s) es i)).map u8V, c9 - ((rcTo (dkS s) (dvS s) es i)).length⟩), (10, ⟨true, b10, 0, 36, (((es.take i).map cutE)).map BG.v, c10 - (((es.take i).map cutE)).length⟩), (12, ⟨true, b12, 0, 24, [iV (0 : Int), iV ((i + 1 : Nat) : Int), iV ((wN i (uI i) 1) : Int)], 0⟩), (74, ⟨true, b74, 0, 5, (rsT (dkS s) (dvS s) (BitVec.ofInt 64 (i : Int)) 23 ((es.getD i default).l.take (min (es.getD i default).l.length 256 - 0)) 0).map u8V, c74 - (rsT (dkS s) (dvS s) (BitVec.ofInt 64 (i : Int)) 23 ((es.getD i default).l.take (min (es.getD i default).l.length 256 - 0)) 0).length⟩), (401, pRow ((es.getD i default).b) ((es.getD i default).q) ((es.getD i default).l.take (min (es.getD i default).l.length 256 - 0)))]) [famR 100001 es]) := by
       clear hG16_0 hG16_1 hG16_2 hG16_3 hG16_4 hG16_5
       refine hGo ?_
       refine At.bStep [0, 3, 6] (by kernel_rfl) (by simp) ?_
       refine ⟨?_, ?_, ?_⟩
       ·
        refine At.bSQ (some 88) (Q_loadA (k := 12) rfl rfl Tryd.underlying24 rfl sz24 LN rfl) ?_
        exact At.intoF (hGi (hG16_6 )) rfl rfl (AllL.cons_ FK2 trivial)
       ·
        refine At.bS true (by kernel_rfl) (S_appendM (some 91) 9 ((rcTo (dkS s) (dvS s) es (i + 1))) (f := u8V) (l := (rcTo (dkS s) (dvS s) es i)) (L := (rsT (dkS s) (dvS s) (BitVec.ofInt 64 (i : Int)) 23 ((es.getD i default).l.take (min (es.getD i default).l.length 256 - 0)) 0)) (m := ((rsT (dkS s) (dvS s) (BitVec.ofInt 64 (i : Int)) 23 ((es.getD i default).l.take (min (es.getD i default).l.length 256 - 0)) 0).length)) rfl Tryd.underlying36 Tryd.underlying36 (.inr ⟨_, rfl⟩) sz5 by5 ze5 rfl rfl (fun h => ⟨g9a h, rfl⟩) LN OG (Src.all (k := 74) (l := (rsT (dkS s) (dvS s) (BitVec.ofInt 64 (i : Int)) 23 ((es.getD i default).l.take (min (es.getD i default).l.length 256 - 0)) 0)) rfl (fun h => g74a (by omega)) (fun _ => ⟨rfl, rfl, rfl⟩) LN) (fun _ => rfl) OG OG (rc_step _ _ _ _) LN ?_)
        intro A91 b91 c91 g91a g91b
        exact At.intoF (hGi (hG16_7 A91 b91 c91 g91a g91b)) rfl rfl (AllL.cons_ FK2 trivial)
       ·
        refine At.bS false (by kernel_rfl) (S_buildSliceV (some 94) 94 (([(bG (cut (es.getD i default).A 0 (es.getD i default).c 1) ((es.getD i default).b) ((es.getD i default).c - 0) ((es.getD i default).l.take (min (es.getD i default).l.length 256 - 0)))]).map BG.v) rfl Tryd.underlying47 sz36 ze36 rfl rfl (by decide) (by decide) rfl rfl (fun b94 => ?_))
        exact At.intoF (hGi (hG16_8 b94)) rfl rfl (AllL.cons_ FK2 trivial)
      clear hG16_0 hG16_1 hG16_2 hG16_3 hG16_4 hG16_5 hG16_6 hG16_7 hG16_8
      refine hGo ?_
      refine At.bP  1 (some 89) (P_move rfl rfl) (by kernel_rfl) (by kernel_rfl) ?_
      refine At.bP  2 (some 90) (P_move rfl rfl) (by kernel_rfl) (by kernel_rfl) ?_
      refine At.bP  4 (some 92) (P_move rfl rfl) (by kernel_rfl) (by kernel_rfl) ?_
      refine At.bP  5 (some 93) (P_move rfl rfl) (by kernel_rfl) (by kernel_rfl) ?_
      exact At.intoF (hGi (hG16_9 )) rfl rfl (AllL.cons_ FK2 trivial)
     ·
      rintro fr H ⟨A91, b91, c91, b94, A95, b95, c95, rfl, rfl, g91a, g91b, g95a, g95b, -⟩
      refine At.inb_n ?_
      refine At.next ?_
      refine At.region ?_
      refine At.p (some 41) (P_move rfl rfl) ?_
      refine At.p (some 42) (P_add_i rfl rfl rfl (by omega)) ?_
      refine At.p (some 11) (P_assign rfl rfl) ?_
      refine At.nil ?_
      refine At.next ?_
      refine At.toM [(1, _), (2, _), (7, _), (8, _), (9, _), (10, _), (11, _)] [(0, _), (7, _), (8, ⟨true, b8, 0, 24, [iV 0, iV ((i + 1) : Int), iV ((uI (i + 1)) : Int)], 0⟩), (9, _), (10, _)] [famR 100001 es] (AllL.cons_ (rfl) (AllL.cons_ (rfl) (AllL.cons_ (rfl) (AllL.cons_ (rfl) (AllL.cons_ (rfl) (AllL.cons_ (rfl) (AllL.cons_ (rfl) trivial))))))) (AllL.cons_ (rfl) (AllL.cons_ (rfl) (AllL.cons_ ((by first | rfl | (rw [hwn]; rfl))) (AllL.cons_ (rfl) (AllL.cons_ (rfl) trivial))))) (AllL.cons_ FK2 trivial) ?_
      exact hKc0 _ _ _ (by omega) ⟨i + 1, A91, b91, c91, A95, b95, c95, rfl, rfl, rfl, g91a, (by first | omega | (simp; done) | (simp <;> omega) | exact Nat.le_refl _), g95a, (by first | omega | (simp; done) | (simp <;> omega) | exact Nat.le_refl _), (by omega), (by omega)⟩
    · -- cond 40 f
     have e40 : ¬ (i : Int) < 20 := of_decide_eq_false h40
     refine At.exit ?_
     refine At.thn_e ?_
     refine At.thn_e ?_
     refine At.inb_hit ?_
     refine At.next ?_
     refine At.toM [(2, _), (7, _), (9, _), (10, _)] [(0, _), (7, _), (9, _), (10, _)] [famR 100001 es] (AllL.cons_ (rfl) (AllL.cons_ (rfl) (AllL.cons_ (rfl) (AllL.cons_ (rfl) trivial)))) (AllL.cons_ (rfl) (AllL.cons_ (rfl) (AllL.cons_ (rfl) (AllL.cons_ (rfl) trivial)))) (AllL.cons_ FK2 trivial) ?_
     exact hKj1 _ _ ⟨i, A9, b9, c9, A10, b10, c10, rfl, rfl, g9a, (by first | omega | (simp; done) | (simp <;> omega) | exact Nat.le_refl _), g10a, (by first | omega | (simp; done) | (simp <;> omega) | exact Nat.le_refl _), hin, hi⟩
   ·
    have eg1 : ¬ (i : Int) < (nr : Int) := of_decide_eq_false g1
    refine At.gn (some 38) (t := 37) rfl g1 rfl rfl ?_
    refine At.gn (some 39) (t := 37) rfl g1 rfl rfl ?_
    refine At.p (some 40) (P_pick_f rfl rfl g1 rfl) ?_
    refine At.nil ?_
    refine At.next ?_
    refine At.cond rfl (fun h => absurd (h.symm.trans rfl) (by decide)) (fun _ => ?_)
    refine At.exit ?_
    refine At.thn_e ?_
    refine At.thn_e ?_
    refine At.inb_hit ?_
    refine At.next ?_
    refine At.toM [(2, _), (7, _), (9, _), (10, _)] [(0, _), (7, _), (9, _), (10, _)] [famR 100001 es] (AllL.cons_ (rfl) (AllL.cons_ (rfl) (AllL.cons_ (rfl) (AllL.cons_ (rfl) trivial)))) (AllL.cons_ (rfl) (AllL.cons_ (rfl) (AllL.cons_ (rfl) (AllL.cons_ (rfl) trivial)))) (AllL.cons_ FK2 trivial) ?_
    exact hKj1 _ _ ⟨i, A9, b9, c9, A10, b10, c10, rfl, rfl, g9a, (by first | omega | (simp; done) | (simp <;> omega) | exact Nat.le_refl _), g10a, (by first | omega | (simp; done) | (simp <;> omega) | exact Nat.le_refl _), hin, hi⟩
 ·
  rintro fr H ⟨N, A9, b9, c9, A10, b10, c10, rfl, rfl, g9a, g9b, g10a, g10b, hN1, hN2⟩
  have hBl := rcTo_le (dkS s) (dvS s) es N
  have hNn : N ≤ es.length := by omega
  refine At.seq ?_
  refine At.region ?_
  refine At.s (S_callV (some 96) [] [300, 301] (vs := [_]) rfl en16 rfl V0 (by simp) (s_New) (by rintro _ _ ⟨br, bl, Ar, cr, hAr, rfl, rfl⟩; rfl) ?_)
  rintro _ _ ⟨br, bl, Ar, cr, hAr, rfl, rfl⟩
  refine At.p (some 19) (P_assign rfl rfl) ?_
  refine At.nil ?_
  refine At.next ?_
  refine At.seq ?_
  refine At.region ?_
  refine At.p (some 20) (P_assign rfl rfl) ?_
  refine At.nil ?_
  refine At.next ?_
  refine At.seq ?_
  refine At.region ?_
  refine At.p (some 97) (P_move rfl rfl) ?_
  refine At.p (some 98) (P_conv_iw UK.u64 rfl Tryd.underlying3 Tryd.underlying26 rfl) ?_
  refine At.p (some 99) (P_rem_w UK.u64 (b := 300#64) rfl rfl rfl (by decide)) ?_
  obtain ⟨k100, hk100, hek100, hdk100⟩ := umod_c ((BitVec.ofInt 64 n)) 300#64 (by decide) (by decide)
  have hk100 : k100 < 300 := hk100
  refine At.p (some 100) (P_conv_WiE hek100 rfl Tryd.underlying26 Tryd.underlying3 rfl) ?_
  refine At.p (some 101) (P_add_i rfl rfl rfl (by omega)) ?_
  refine At.p (some 21) (P_assign rfl rfl) ?_
  refine At.nil ?_
  refine At.next ?_
  refine At.seq ?_
  refine At.seq ?_
  refine At.region ?_
  refine At.p (some 22) (P_assign rfl rfl) ?_
  refine At.nil ?_
  refine At.next ?_
  refine At.block ?_
  have hc0 := cnt_0 (key := dkS s) (iv := dvS s) (es := es) (N := N)
  have hr0 : (rcTo (dkS s) (dvS s) es 0).length = 0 := by rw [rcTo_0]; rfl
  have hm0 : min 0 (rcTo (dkS s) (dvS s) es N).length = 0 := Nat.zero_min _
  refine At.loopx (I := fun m fr H => ∃ (i a : Nat) (Ar : Option Addr) (bl cr : Nat), m = (rcTo (dkS s) (dvS s) es N).length + 1 - i ∧ fr = frOf [(7, ptr b7 0), (9, .slice A9 ((rcTo (dkS s) (dvS s) es N).length) c9), (10, .slice A10 (((es.take N).map cutE).length) c10), (19, ptr br 0), (20, iV (a : Int)), (21, iV (1 + (k100 : Int))), (22, iV (i : Int))] ∧ H = famsOf (hOf [(7, ⟨true, b7, 0, 41, [(dkS s).map u8V, (dvS s).map u8V].flatten, 0⟩), (9, ⟨true, b9, 0, 5, ((rcTo (dkS s) (dvS s) es N)).map u8V, c9 - ((rcTo (dkS s) (dvS s) es N)).length⟩), (10, ⟨true, b10, 0, 36, (((es.take N).map cutE)).map BG.v, c10 - (((es.take N).map cutE)).length⟩), (300, ⟨true, br, 0, 66, [.slice Ar ((cnt (dkS s) (dvS s) es N (min i (rcTo (dkS s) (dvS s) es N).length) a).length) cr, iV 0], 0⟩), (301, ⟨true, bl, 0, 5, ((cnt (dkS s) (dvS s) es N (min i (rcTo (dkS s) (dvS s) es N).length) a)).map u8V, cr - ((cnt (dkS s) (dvS s) es N (min i (rcTo (dkS s) (dvS s) es N).length) a)).length⟩)]) [famR 100001 es] ∧ (0 < cr → Ar = some ⟨bl, 0, none⟩) ∧ ((cnt (dkS s) (dvS s) es N (min i (rcTo (dkS s) (dvS s) es N).length) a).length ≤ cr) ∧ (a ≤ N) ∧ ((rcTo (dkS s) (dvS s) es a).length ≤ (min i (rcTo (dkS s) (dvS s) es N).length)) ∧ (0 < i → (cnt (dkS s) (dvS s) es N (min i (rcTo (dkS s) (dvS s) es N).length) a).length < 5 + rcN es a)) ?_ ?_
  ·
   intro Kc1 hKc1
   refine At.toM [(7, _), (9, _), (10, _), (19, _), (20, _), (21, _), (22, _)] [(7, _), (9, _), (10, _), (300, ⟨true, br, 0, 66, [.slice Ar ((cnt (dkS s) (dvS s) es N (min 0 (rcTo (dkS s) (dvS s) es N).length) 0).length) cr, iV 0], 0⟩), (301, ⟨true, bl, 0, 5, ((cnt (dkS s) (dvS s) es N (min 0 (rcTo (dkS s) (dvS s) es N).length) 0)).map u8V, cr - ((cnt (dkS s) (dvS s) es N (min 0 (rcTo (dkS s) (dvS s) es N).length) 0)).length⟩)] [famR 100001 es] (AllL.cons_ (rfl) (AllL.cons_ (rfl) (AllL.cons_ (rfl) (AllL.cons_ (rfl) (AllL.cons_ (rfl) (AllL.cons_ (rfl) (AllL.cons_ (rfl) trivial))))))) (AllL.cons_ (rfl) (AllL.cons_ (rfl) (AllL.cons_ (rfl) (AllL.cons_ ((by rw [hm0, hc0]; rfl)) (AllL.cons_ ((by rw [hm0, hc0]; rfl)) trivial))))) (AllL.cons_ FK2 trivial) ?_
   exact hKc1 _ _ _ ⟨0, 0, Ar, bl, cr, rfl, rfl, rfl, hAr, (by rw [hm0, hc0]; simp), (Nat.zero_le _), (by rw [hr0]; exact Nat.zero_le _), (fun h => absurd h (Nat.lt_irrefl 0))⟩
  ·
   rintro m fr H ⟨i, a, Ar, bl, cr, rfl, rfl, rfl, hAr, hcr, ha, hoa, hd⟩ Kc1 hKc1
   refine At.seqJ (fun fr H => fr = frOf [(7, ptr b7 0), (9, .slice A9 ((rcTo (dkS s) (dvS s) es N).length) c9), (10, .slice A10 (((es.take N).map cutE).length) c10), (19, ptr br 0), (20, iV (a : Int)), (21, iV (1 + (k100 : Int))), (22, iV (i : Int))] ∧ H = famsOf (hOf [(7, ⟨true, b7, 0, 41, [(dkS s).map u8V, (dvS s).map u8V].flatten, 0⟩), (9, ⟨true, b9, 0, 5, ((rcTo (dkS s) (dvS s) es N)).map u8V, c9 - ((rcTo (dkS s) (dvS s) es N)).length⟩), (10, ⟨true, b10, 0, 36, (((es.take N).map cutE)).map BG.v, c10 - (((es.take N).map cutE)).length⟩), (300, ⟨true, br, 0, 66, [.slice Ar ((cnt (dkS s) (dvS s) es N (min i (rcTo (dkS s) (dvS s) es N).length) a).length) cr, iV 0], 0⟩), (301, ⟨true, bl, 0, 5, ((cnt (dkS s) (dvS s) es N (min i (rcTo (dkS s) (dvS s) es N).length) a)).map u8V, cr - ((cnt (dkS s) (dvS s) es N (min i (rcTo (dkS s) (dvS s) es N).length) a)).length⟩)]) [famR 100001 es] ∧ (i ≤ (rcTo (dkS s) (dvS s) es N).length)) ?_ ?_
   ·
    intro Kj2 hKj2
    refine At.seq ?_
    refine At.region ?_
    refine At.p (some 102) (P_move rfl rfl) ?_
    refine At.p (some 103) (P_move rfl rfl) ?_
    refine At.p (some 104) (P_len_sl rfl rfl ⟨_, Tryd.underlying36⟩ rfl) ?_
    refine At.p (some 105) (P_cmp rfl rfl rfl rfl rfl rfl) ?_
    refine At.p (some 106) (P_move rfl rfl) ?_
    refine At.gsplit (t := 106) (want := false) rfl (fun g2 => ?_) (fun g2 => ?_)
    ·
     have eg2 : ¬ (i : Int) < ((rcTo (dkS s) (dvS s) es N).length : Int) := of_decide_eq_false g2
     refine At.gy (t := 106) rfl g2 rfl rfl ?_
     refine At.p (some 107) (P_move rfl rfl) ?_
     refine At.gy (t := 106) rfl g2 rfl rfl ?_
     refine At.p (some 108) (P_cmp rfl rfl rfl rfl rfl rfl) ?_
     refine At.p (some 109) (P_pick_f rfl rfl g2 rfl) ?_
     refine At.nil ?_
     refine At.next ?_
     refine At.cond rfl (fun h109 => ?_) (fun h109 => ?_)
     · -- cond 109 t
      have e109 : (i : Int) = 0 := eq_of_beq h109
      refine At.skip ?_
      refine At.next ?_
      refine At.toM [(7, _), (9, _), (10, _), (19, _), (20, _), (21, _), (22, _)] [(7, _), (9, _), (10, _), (300, _), (301, _)] [famR 100001 es] (AllL.cons_ (rfl) (AllL.cons_ (rfl) (AllL.cons_ (rfl) (AllL.cons_ (rfl) (AllL.cons_ (rfl) (AllL.cons_ (rfl) (AllL.cons_ (rfl) trivial))))))) (AllL.cons_ (rfl) (AllL.cons_ (rfl) (AllL.cons_ (rfl) (AllL.cons_ (rfl) (AllL.cons_ (rfl) trivial))))) (AllL.cons_ FK2 trivial) ?_
      exact hKj2 _ _ ⟨rfl, rfl, (by omega)⟩
     · -- cond 109 f
      have e109 : (i : Int) ≠ 0 := beq_eq_false_iff_ne.1 h109
      refine At.exit ?_
      refine At.thn_e ?_
      refine At.thn_e ?_
      refine At.inb_hit ?_
      refine At.next ?_
      refine At.seq ?_
      have hfe : (min i (rcTo (dkS s) (dvS s) es N).length) = (rcTo (dkS s) (dvS s) es N).length := by omega
      have hf : (min i (rcTo (dkS s) (dvS s) es N).length) ≤ (rcTo (dkS s) (dvS s) es N).length := by omega
      rw [hfe] at hd
      obtain ⟨haN, hce⟩ := cnt_end ha (fun _ => hd (by omega))
      have hce2 : (cnt (dkS s) (dvS s) es N (min i (rcTo (dkS s) (dvS s) es N).length) a) = [] := by rw [hfe]; exact hce
      have hcl : (cnt (dkS s) (dvS s) es N (min i (rcTo (dkS s) (dvS s) es N).length) a).length = 0 := by rw [hce2]; rfl
      refine At.region ?_
      refine At.s (S_callV (some 176) [] [] (vs := []) rfl en15 rfl V0 (by simp) (c_stands  ) (by rintro _ _ ⟨rfl, rfl⟩; rfl) ?_)
      rintro _ _ ⟨rfl, rfl⟩
      refine At.p (some 177) (P_move rfl rfl) ?_
      refine At.gy (t := 177) rfl rfl rfl rfl ?_
      refine At.p (some 178) (P_move rfl rfl) ?_
      refine At.gy (t := 177) rfl rfl rfl rfl ?_
      refine At.p (some 179) (P_move rfl rfl) ?_
      refine At.gy (t := 177) rfl rfl rfl rfl ?_
      refine At.p (some 180) (P_len_sl rfl rfl ⟨_, Tryd.underlying47⟩ rfl) ?_
      refine At.gy (t := 177) rfl rfl rfl rfl ?_
      refine At.p (some 181) (P_cmp rfl rfl rfl rfl rfl rfl) ?_
      refine At.p (some 182) (P_pick_t rfl rfl rfl rfl) ?_
      refine At.p (some 183) (P_move rfl rfl) ?_
      refine At.gy (t := 183) rfl (by rw [beq_iff_eq, List.length_map, List.length_take]; omega) rfl rfl ?_
      refine At.p (some 184) (P_move rfl rfl) ?_
      refine At.gy (t := 183) rfl (by rw [beq_iff_eq, List.length_map, List.length_take]; omega) rfl rfl ?_
      refine At.s (S_callV (some 185) [(300, _), (301, _)] [185] (vs := [_]) rfl en19 rfl (VN (by simp) rfl View.all (VN (by simp) rfl View.all V0)) (by simp) (s_Left (br := br) (bl := bl) (cr := cr) (c := (cnt (dkS s) (dvS s) es N (min i (rcTo (dkS s) (dvS s) es N).length) a)) (Ar := Ar) hAr hcr (by omega)) (by rintro _ _ ⟨A185, b185, c185, g185a, g185b, rfl, rfl⟩; rfl) ?_)
      rintro _ _ ⟨A185, b185, c185, g185a, g185b, rfl, rfl⟩
      refine At.gy (t := 183) rfl (by rw [beq_iff_eq, List.length_map, List.length_take]; omega) rfl rfl ?_
      refine At.p (some 186) (P_len_sl rfl rfl ⟨_, Tryd.underlying36⟩ rfl) ?_
      refine At.gy (t := 183) rfl (by rw [beq_iff_eq, List.length_map, List.length_take]; omega) rfl rfl ?_
      refine At.p (some 187) (P_cmp rfl rfl rfl rfl rfl rfl) ?_
      refine At.p (some 188) (P_pick_t rfl rfl (by rw [beq_iff_eq, List.length_map, List.length_take]; omega) rfl) ?_
      refine At.p (some 6) (P_assign rfl rfl) ?_
      refine At.nil ?_
      refine At.next ?_
      refine At.ret ?_
      have hq0 : (((cnt (dkS s) (dvS s) es N (min i (rcTo (dkS s) (dvS s) es N).length) a).length : Int) == 0) = true := (by rw [hce2]; rfl)
      refine At.give (.inl rfl) [] (rows' := []) (vs := [_]) rfl ⟨rfl, trivial⟩ rfl (by simp) (by simp) ⟨(by first | (rw [hq0]; try rfl; done) | (rw [← hq0]; try rfl; done) | (simp only [hq0]; try rfl; done) | (simp only [← hq0]; try rfl; done) | rfl), (by first | (rw [hq0]; try rfl; done) | (rw [← hq0]; try rfl; done) | (simp only [hq0]; try rfl; done) | (simp only [← hq0]; try rfl; done) | rfl)⟩
    ·
     have eg2 : (i : Int) < ((rcTo (dkS s) (dvS s) es N).length : Int) := of_decide_eq_true g2
     refine At.gn (some 107) (t := 106) rfl g2 rfl rfl ?_
     refine At.gn (some 108) (t := 106) rfl g2 rfl rfl ?_
     refine At.p (some 109) (P_pick_t rfl rfl g2 rfl) ?_
     refine At.nil ?_
     refine At.next ?_
     refine At.cond rfl (fun _ => ?_) (fun h => absurd (h.symm.trans rfl) (by decide))
     refine At.skip ?_
     refine At.next ?_
     refine At.toM [(7, _), (9, _), (10, _), (19, _), (20, _), (21, _), (22, _)] [(7, _), (9, _), (10, _), (300, _), (301, _)] [famR 100001 es] (AllL.cons_ (rfl) (AllL.cons_ (rfl) (AllL.cons_ (rfl) (AllL.cons_ (rfl) (AllL.cons_ (rfl) (AllL.cons_ (rfl) (AllL.cons_ (rfl) trivial))))))) (AllL.cons_ (rfl) (AllL.cons_ (rfl) (AllL.cons_ (rfl) (AllL.cons_ (rfl) (AllL.cons_ (rfl) trivial))))) (AllL.cons_ FK2 trivial) ?_
     exact hKj2 _ _ ⟨rfl, rfl, (by omega)⟩
   ·
    rintro fr H ⟨rfl, rfl, hiB⟩
    refine At.seq ?_
    refine At.block ?_
    refine At.seq ?_
    refine At.seq ?_
    have hf : (min i (rcTo (dkS s) (dvS s) es N).length) ≤ (rcTo (dkS s) (dvS s) es N).length := Nat.min_le_right _ _
    have hcl := cnt_len (a := a) hf
    refine At.region ?_
    refine At.p (some 113) (P_move rfl rfl) ?_
    refine At.p (some 114) (P_move rfl rfl) ?_
    refine At.p (some 115) (P_move rfl rfl) ?_
    refine At.p (some 116) (P_move rfl rfl) ?_
    refine At.p (some 117) (P_len_sl rfl rfl ⟨_, Tryd.underlying36⟩ rfl) ?_
    refine At.p (some 118) (P_min2 rfl rfl rfl rfl) ?_
    refine At.p (some 119) (P_move rfl rfl) ?_
    refine At.p (some 120) (P_move rfl rfl) ?_
    refine At.p (some 121) (P_add_i rfl rfl rfl (by omega)) ?_
    refine At.p (some 122) (P_move rfl rfl) ?_
    refine At.p (some 123) (P_len_sl rfl rfl ⟨_, Tryd.underlying36⟩ rfl) ?_
    refine At.p (some 124) (P_min2 rfl rfl rfl rfl) ?_
    refine At.p (some 125) (P_slice_sl (l := (min i ((rcTo (dkS s) (dvS s) es N).length))) (h := (min (i + (1 + k100)) ((rcTo (dkS s) (dvS s) es N).length))) (m := c9) rfl Tryd.underlying36 sz5 rfl ⟨_, _, rfl, by omega⟩ ⟨_, _, rfl, by omega⟩ rfl DO DO DO) ?_
    refine At.s (S_callR (some 126) [(300, _), (301, _)] [(9, _)] [300, 301] (vs := [_, _]) rfl en17 rfl (ON rfl rfl (ON rfl rfl O0)) (by simp) (VN (by simp) rfl (View.sub (j := (min i ((rcTo (dkS s) (dvS s) es N).length))) (m := ((min (i + (1 + k100)) ((rcTo (dkS s) (dvS s) es N).length)) - (min i ((rcTo (dkS s) (dvS s) es N).length)))) rfl rfl) V0) (by simp) (s_Feed (br := br) (bl := bl) (cr := cr) (c := (cnt (dkS s) (dvS s) es N (min i (rcTo (dkS s) (dvS s) es N).length) a)) (Ar := Ar) (p := (((rcTo (dkS s) (dvS s) es N).drop (min i ((rcTo (dkS s) (dvS s) es N).length))).take ((min (i + (1 + k100)) ((rcTo (dkS s) (dvS s) es N).length)) - (min i ((rcTo (dkS s) (dvS s) es N).length))))) (np := ((min (i + (1 + k100)) ((rcTo (dkS s) (dvS s) es N).length)) - (min i ((rcTo (dkS s) (dvS s) es N).length)))) (Ap := (cut A9 (min i ((rcTo (dkS s) (dvS s) es N).length)) c9 1)) (cp := (c9 - (min i ((rcTo (dkS s) (dvS s) es N).length)))) (bp := b9) (qp := (0 + (min i ((rcTo (dkS s) (dvS s) es N).length)))) hAr (by omega) LN (fun h => cut_addr1 ((fun h => g9a (by omega)) (by omega)) (by omega)) (by omega)) (by rintro _ _ ⟨A3, b3, c3, g3a, g3b, rfl, rfl⟩; rfl) ?_)
    rintro _ _ ⟨A3, b3, c3, g3a, g3b, rfl, rfl⟩
    have hfd := cnt_feed (key := dkS s) (iv := dvS s) (es := es) (N := N) (f := (min i (rcTo (dkS s) (dvS s) es N).length)) (g := (min (i + (1 + k100)) (rcTo (dkS s) (dvS s) es N).length)) (a := a) hoa hf (by omega)
    refine At.p (some 127) (P_cmp rfl rfl rfl rfl rfl rfl) ?_
    refine At.nil ?_
    refine At.next ?_
    refine At.cond rfl (fun h127 => by simp at h127) (fun h127 => ?_)
    have e127 : 0 = 0 := bne_eq_false_iff_eq.1 h127
    refine At.skip ?_
    refine At.next ?_
    refine At.block ?_
    refine At.loopx (I := fun m fr H => ∃ (a : Nat) (Ar : Option Addr) (bl cr : Nat), m = N - a ∧ fr = frOf [(7, ptr b7 0), (9, .slice A9 ((rcTo (dkS s) (dvS s) es N).length) c9), (10, .slice A10 (((es.take N).map cutE).length) c10), (19, ptr br 0), (20, iV (a : Int)), (21, iV (1 + (k100 : Int))), (22, iV (i : Int))] ∧ H = famsOf (hOf [(7, ⟨true, b7, 0, 41, [(dkS s).map u8V, (dvS s).map u8V].flatten, 0⟩), (9, ⟨true, b9, 0, 5, ((rcTo (dkS s) (dvS s) es N)).map u8V, c9 - ((rcTo (dkS s) (dvS s) es N)).length⟩), (10, ⟨true, b10, 0, 36, (((es.take N).map cutE)).map BG.v, c10 - (((es.take N).map cutE)).length⟩), (300, ⟨true, br, 0, 66, [.slice Ar ((cnt (dkS s) (dvS s) es N (min (i + (1 + k100)) (rcTo (dkS s) (dvS s) es N).length) a).length) cr, iV 0], 0⟩), (301, ⟨true, bl, 0, 5, ((cnt (dkS s) (dvS s) es N (min (i + (1 + k100)) (rcTo (dkS s) (dvS s) es N).length) a)).map u8V, cr - ((cnt (dkS s) (dvS s) es N (min (i + (1 + k100)) (rcTo (dkS s) (dvS s) es N).length) a)).length⟩)]) [famR 100001 es] ∧ (0 < cr → Ar = some ⟨bl, 0, none⟩) ∧ ((cnt (dkS s) (dvS s) es N (min (i + (1 + k100)) (rcTo (dkS s) (dvS s) es N).length) a).length ≤ cr) ∧ (a ≤ N) ∧ ((rcTo (dkS s) (dvS s) es a).length ≤ (min (i + (1 + k100)) (rcTo (dkS s) (dvS s) es N).length))) ?_ ?_
    ·
     intro Kc2 hKc2
     refine At.toM [(7, _), (9, _), (10, _), (19, _), (20, _), (21, _), (22, _)] [(7, _), (9, _), (10, _), (300, ⟨true, br, 0, 66, [.slice A3 ((cnt (dkS s) (dvS s) es N (min (i + (1 + k100)) (rcTo (dkS s) (dvS s) es N).length) a).length) c3, iV 0], 0⟩), (301, ⟨true, b3, 0, 5, ((cnt (dkS s) (dvS s) es N (min (i + (1 + k100)) (rcTo (dkS s) (dvS s) es N).length) a)).map u8V, c3 - ((cnt (dkS s) (dvS s) es N (min (i + (1 + k100)) (rcTo (dkS s) (dvS s) es N).length) a)).length⟩)] [famR 100001 es] (AllL.cons_ (rfl) (AllL.cons_ (rfl) (AllL.cons_ (rfl) (AllL.cons_ (rfl) (AllL.cons_ (rfl) (AllL.cons_ (rfl) (AllL.cons_ (rfl) trivial))))))) (AllL.cons_ (rfl) (AllL.cons_ (rfl) (AllL.cons_ (rfl) (AllL.cons_ ((by rw [← hfd]; rfl)) (AllL.cons_ ((by rw [← hfd]; rfl)) trivial))))) (AllL.cons_ FK2 trivial) ?_
     exact hKc2 _ _ _ ⟨a, A3, b3, c3, rfl, rfl, rfl, g3a, (by rw [← hfd]; exact g3b), ha, (by omega)⟩
    ·
     rintro m fr H ⟨a, Ar, bl, cr, rfl, rfl, rfl, hAr, hcr, ha, hoa⟩ Kc2 hKc2
     have hg : (min (i + (1 + k100)) (rcTo (dkS s) (dvS s) es N).length) ≤ (rcTo (dkS s) (dvS s) es N).length := Nat.min_le_right _ _
     have hcl := cnt_len (a := a) hg
     refine At.block ?_
     refine At.seq ?_
     rcases Nat.lt_or_ge (cnt (dkS s) (dvS s) es N (min (i + (1 + k100)) (rcTo (dkS s) (dvS s) es N).length) a).length (5 + rcN es a) with hc | hc
     · -- case 0
      refine At.region ?_
      refine At.p (some 129) (P_move rfl rfl) ?_
      refine At.s (S_callR (some 130) [(300, _), (301, _)] [] [300, 301] (vs := [_]) rfl en18 rfl (ON rfl rfl (ON rfl rfl O0)) (by simp) V0 (by simp) (s_TakeN (br := br) (bl := bl) (cr := cr) (c := (cnt (dkS s) (dvS s) es N (min (i + (1 + k100)) (rcTo (dkS s) (dvS s) es N).length) a)) (Ar := Ar) (n := (rcN es a)) hAr hcr (cnt_hd ha hg) hc (by omega)) (by rintro _ _ ⟨rfl, rfl⟩; rfl) ?_)
      rintro _ _ ⟨rfl, rfl⟩
      refine At.p (some 128) (P_move rfl rfl) ?_
      refine At.p (some 131) (P_extract rfl rfl rfl) ?_
      refine At.p (some 132) (P_extract rfl rfl rfl) ?_
      refine At.p (some 133) (P_extract rfl rfl rfl) ?_
      refine At.p (some 134) (P_extract rfl rfl rfl) ?_
      refine At.p (some 23) (P_assign rfl rfl) ?_
      refine At.p (some 24) (P_assign rfl rfl) ?_
      refine At.p (some 25) (P_assign rfl rfl) ?_
      refine At.p (some 26) (P_assign rfl rfl) ?_
      refine At.nil ?_
      refine At.next ?_
      refine At.seq ?_
      refine At.seq ?_
      refine At.region ?_
      refine At.p (some 135) (P_move rfl rfl) ?_
      refine At.p (some 136) (P_cmp rfl rfl rfl rfl rfl rfl) ?_
      refine At.nil ?_
      refine At.next ?_
      refine At.cond rfl (fun h136 => by simp at h136) (fun h136 => ?_)
      have e136 : 0 = 0 := bne_eq_false_iff_eq.1 h136
      refine At.skip ?_
      refine At.next ?_
      refine At.seq ?_
      refine At.seq ?_
      refine At.region ?_
      refine At.p (some 137) (P_move rfl rfl) ?_
      refine At.p (some 138) (P_not rfl rfl) ?_
      refine At.nil ?_
      refine At.next ?_
      refine At.cond rfl (fun h138 => ?_) (fun h138 => by simp at h138)
      refine At.exit ?_
      refine At.thn_e ?_
      refine At.inb_miss (by decide) ?_
      refine At.thn_e ?_
      refine At.inb_hit ?_
      refine At.inb_n ?_
      refine At.next ?_
      refine At.region ?_
      refine At.p (some 110) (P_move rfl rfl) ?_
      refine At.p (some 111) (P_move rfl rfl) ?_
      refine At.p (some 112) (P_add_i rfl rfl rfl (by omega)) ?_
      refine At.p (some 22) (P_assign rfl rfl) ?_
      refine At.nil ?_
      refine At.next ?_
      refine At.toM [(7, _), (9, _), (10, _), (19, _), (20, _), (21, _), (22, _)] [(7, _), (9, _), (10, _), (300, _), (301, _)] [famR 100001 es] (AllL.cons_ (rfl) (AllL.cons_ (rfl) (AllL.cons_ (rfl) (AllL.cons_ (rfl) (AllL.cons_ (rfl) (AllL.cons_ (rfl) (AllL.cons_ (rfl) trivial))))))) (AllL.cons_ (rfl) (AllL.cons_ (rfl) (AllL.cons_ (rfl) (AllL.cons_ (rfl) (AllL.cons_ (rfl) trivial))))) (AllL.cons_ FK2 trivial) ?_
      exact hKc1 _ _ _ (by omega) ⟨i + (1 + k100), a, Ar, bl, cr, rfl, rfl, rfl, hAr, hcr, ha, hoa, (fun _ => hc)⟩
     · -- case 1
      obtain ⟨haN, hoa2⟩ := cnt_lt ha hg hc
      obtain ⟨z0, z1, z2⟩ := rc_open haN hg hc
      refine At.region ?_
      refine At.p (some 129) (P_move rfl rfl) ?_
      refine At.s (S_callR (some 130) [(300, _), (301, _)] [] [300, 301, 302] (vs := [_]) rfl en18 rfl (ON rfl rfl (ON rfl rfl O0)) (by simp) V0 (by simp) (s_TakeY (br := br) (bl := bl) (cr := cr) (c := (cnt (dkS s) (dvS s) es N (min (i + (1 + k100)) (rcTo (dkS s) (dvS s) es N).length) a)) (Ar := Ar) (n := (rcN es a)) hAr hcr (cnt_hd ha hg) hc (by omega)) (by rintro _ _ ⟨A5, b5, c5, A6, b6, c6, g5a, g5b, g6a, g6b, rfl, rfl⟩; rfl) ?_)
      rintro _ _ ⟨A5, b5, c5, A6, b6, c6, g5a, g5b, g6a, g6b, rfl, rfl⟩
      refine At.p (some 128) (P_move rfl rfl) ?_
      refine At.p (some 131) (P_extract rfl rfl rfl) ?_
      refine At.p (some 132) (P_extract rfl rfl rfl) ?_
      refine At.p (some 133) (P_extract rfl rfl rfl) ?_
      refine At.p (some 134) (P_extract rfl rfl rfl) ?_
      refine At.p (some 23) (P_assign rfl rfl) ?_
      refine At.p (some 24) (P_assign rfl rfl) ?_
      refine At.p (some 25) (P_assign rfl rfl) ?_
      refine At.p (some 26) (P_assign rfl rfl) ?_
      refine At.nil ?_
      refine At.next ?_
      refine At.seq ?_
      refine At.seq ?_
      refine At.region ?_
      refine At.p (some 135) (P_move rfl rfl) ?_
      refine At.p (some 136) (P_cmp rfl rfl rfl rfl rfl rfl) ?_
      refine At.nil ?_
      refine At.next ?_
      refine At.cond rfl (fun h136 => by simp at h136) (fun h136 => ?_)
      have e136 : 0 = 0 := bne_eq_false_iff_eq.1 h136
      refine At.skip ?_
      refine At.next ?_
      refine At.seq ?_
      refine At.seq ?_
      refine At.region ?_
      refine At.p (some 137) (P_move rfl rfl) ?_
      refine At.p (some 138) (P_not rfl rfl) ?_
      refine At.nil ?_
      refine At.next ?_
      refine At.cond rfl (fun h138 => by simp at h138) (fun h138 => ?_)
      refine At.skip ?_
      refine At.next ?_
      refine At.seq ?_
      refine At.region ?_
      refine At.q (some 140) (Q_loadA (k := 7) rfl rfl Tryd.underlying41 rfl sz41 LN rfl) ?_
      refine At.p (some 141) (P_move rfl rfl) ?_
      refine At.p (some 142) (P_conv_iw UK.u64 rfl Tryd.underlying3 Tryd.underlying26 rfl) ?_
      refine At.p (some 143) (P_move rfl rfl) ?_
      refine At.s (S_callV (some 144) [(302, _)] [144] (vs := [_, _, _]) rfl en14 rfl (VN (by simp) rfl View.all V0) (by simp) (c_ROpen (key := (dkS s)) (iv := (dvS s)) (seq := (BitVec.ofInt 64 (a : Int))) (b := (((cnt (dkS s) (dvS s) es N (min (i + (1 + k100)) (rcTo (dkS s) (dvS s) es N).length) a).drop 5).take (rcN es a))) (nb := ((((cnt (dkS s) (dvS s) es N (min (i + (1 + k100)) (rcTo (dkS s) (dvS s) es N).length) a).drop 5).take (rcN es a)).length)) (Ab := A5) (cb := c5) (bb := b5) (qb := 0) LN LN LN (fun h => g5a (by omega)) OG OG) (by rintro _ _ ⟨A144, b144, c144, r144, m144, g144a, g144b, rfl, rfl⟩; rfl) ?_)
      rintro _ _ ⟨A144, b144, c144, r144, m144, g144a, g144b, rfl, rfl⟩
      refine At.forgetM 144 rfl ?_
      refine At.p (some 139) (P_move rfl rfl) ?_
      refine At.p (some 145) (P_extract rfl rfl rfl) ?_
      refine At.p (some 146) (P_extract rfl rfl rfl) ?_
      refine At.p (some 147) (P_extract rfl rfl rfl) ?_
      refine At.p (some 27) (P_assign rfl rfl) ?_
      refine At.p (some 28) (P_assign rfl rfl) ?_
      refine At.p (some 29) (P_assign rfl rfl) ?_
      refine At.nil ?_
      refine At.next ?_
      refine At.seq ?_
      refine At.seq ?_
      refine At.draws 24 [] [.q false [0, 1, 2, 3, 4, 5, 6, 7, 8, 9, 10, 11, 12, 13, 14, 15, 16, 17, 18, 19, 20, 21, 22, 23]] (by kernel_rfl) (by kernel_rfl) ?_
      refine At.wp (some 148) (P_move rfl rfl) ?_
      refine At.wp (some 149) (P_cmp rfl rfl rfl rfl rfl rfl) ?_
      refine At.wp (some 150) (P_move rfl rfl) ?_
      refine At.wgy (some 151) (t := 150) rfl rfl rfl rfl (P_move rfl rfl) ?_
      refine At.wgy (some 152) (t := 150) rfl rfl rfl rfl (P_cmp rfl rfl rfl rfl rfl rfl) ?_
      refine At.wp (some 153) (P_pick_f rfl rfl rfl rfl) ?_
      refine At.wp (some 154) (P_move rfl rfl) ?_
      refine At.wgy (some 155) (t := 154) rfl (bne_eq_false_iff_eq.2 z1) rfl rfl (P_move rfl rfl) ?_
      refine At.wgy (some 156) (t := 154) rfl (bne_eq_false_iff_eq.2 z1) rfl rfl (P_cmp rfl rfl rfl rfl rfl rfl) ?_
      refine At.wp (some 157) (P_pick_f rfl rfl (bne_eq_false_iff_eq.2 z1) rfl) ?_
      refine At.wp (some 158) (P_move rfl rfl) ?_
      refine At.wgy (some 159) (t := 158) rfl (bne_eq_false_iff_eq.2 z0) rfl rfl (P_move rfl rfl) ?_
      refine At.wgy (some 160) (t := 158) rfl (bne_eq_false_iff_eq.2 z0) rfl rfl (P_move rfl rfl) ?_
      refine At.wgy (some 161) (t := 158) rfl (bne_eq_false_iff_eq.2 z0) rfl rfl (P_len_sl rfl rfl ⟨_, Tryd.underlying47⟩ rfl) ?_
      refine At.wgy (some 162) (t := 158) rfl (bne_eq_false_iff_eq.2 z0) rfl rfl (P_cmp rfl rfl rfl rfl rfl rfl) ?_
      refine At.wp (some 163) (P_pick_f rfl rfl (bne_eq_false_iff_eq.2 z0) rfl) ?_
      refine At.wp (some 164) (P_move rfl rfl) ?_
      refine At.wgy (some 165) (t := 164) rfl (decide_eq_false (by simp; omega)) rfl rfl (P_move rfl rfl) ?_
      refine At.wgyq (some 166) (t := 164) rfl (decide_eq_false (by simp; omega)) rfl rfl (Q_strA (l := (roT (dkS s) (dvS s) (BitVec.ofInt 64 (a : Int)) (((cnt (dkS s) (dvS s) es N (min (i + (1 + k100)) (rcTo (dkS s) (dvS s) es N).length) a).drop 5).take (rcN es a)))) (n := ((roT (dkS s) (dvS s) (BitVec.ofInt 64 (a : Int)) (((cnt (dkS s) (dvS s) es N (min (i + (1 + k100)) (rcTo (dkS s) (dvS s) es N).length) a).drop 5).take (rcN es a))).length)) (k := 144) LN rfl Tryd.underlying36 Tryd.underlying5 Tryd.underlying9 rfl g144a (fun _ => ⟨rfl, rfl, rfl⟩)) ?_
      refine At.wgy (some 167) (t := 164) rfl (decide_eq_false (by simp; omega)) rfl rfl (P_move rfl rfl) ?_
      refine At.wgy (some 168) (t := 164) rfl (decide_eq_false (by simp; omega)) rfl rfl (P_move rfl rfl) ?_
      refine At.wgy (some 169) (t := 164) rfl (decide_eq_false (by simp; omega)) rfl rfl (P_indexAddr_slz (b := b10) (j := a) rfl Tryd.underlying47 sz36 rfl ((fun h => g10a (by omega)) OG) rfl RO OG) ?_
      refine At.wgyq (some 170) (t := 164) rfl (decide_eq_false (by simp; omega)) rfl rfl (Q_cast (congrArg BG.v (want_at haN hNn)) (Q_loadM (k := 10) (f := BG.v) (l := ((es.take N).map cutE)) (default : BG) rfl rfl Tryd.underlying36 rfl rfl (by simp; omega))) ?_
      refine At.wgyq (some 171) (t := 164) rfl (decide_eq_false (by simp; omega)) rfl rfl (Q_strC 100001 a FK2 (by omega) hes rfl Tryd.underlying36 Tryd.underlying5 Tryd.underlying9 rfl) ?_
      refine At.wqn ?_
      refine At.wt rfl ?_
      refine At.gy (t := 164) rfl (decide_eq_false (by simp; omega)) rfl rfl ?_
      refine At.p (some 172) (P_neq_str (a := (roT (dkS s) (dvS s) (BitVec.ofInt 64 (a : Int)) (((cnt (dkS s) (dvS s) es N (min (i + (1 + k100)) (rcTo (dkS s) (dvS s) es N).length) a).drop 5).take (rcN es a)))) (b := (txC (es.getD a default))) rfl rfl rfl) ?_
      refine At.p (some 173) (P_pick_f rfl rfl (decide_eq_false (by simp; omega)) rfl) ?_
      refine At.nil ?_
      refine At.next ?_
      refine At.cond rfl (fun h173 => (by rw [z2] at h173; simp at h173)) (fun h173 => ?_)
      have e173 : (roT (dkS s) (dvS s) (BitVec.ofInt 64 (a : Int)) (((cnt (dkS s) (dvS s) es N (min (i + (1 + k100)) (rcTo (dkS s) (dvS s) es N).length) a).drop 5).take (rcN es a))) = (txC (es.getD a default)) := (by first | (simp; done) | simpa using h173)
      refine At.skip ?_
      refine At.next ?_
      refine At.region ?_
      refine At.p (some 174) (P_move rfl rfl) ?_
      refine At.p (some 175) (P_add_i rfl rfl rfl (by omega)) ?_
      refine At.p (some 20) (P_assign rfl rfl) ?_
      refine At.nil ?_
      refine At.inb_n ?_
      refine At.next ?_
      refine At.toM [(7, _), (9, _), (10, _), (19, _), (20, _), (21, _), (22, _)] [(7, _), (9, _), (10, _), (300, ⟨true, br, 0, 66, [.slice A6 ((cnt (dkS s) (dvS s) es N (min (i + (1 + k100)) (rcTo (dkS s) (dvS s) es N).length) (a + 1)).length) c6, iV 0], 0⟩), (301, ⟨true, b6, 0, 5, ((cnt (dkS s) (dvS s) es N (min (i + (1 + k100)) (rcTo (dkS s) (dvS s) es N).length) (a + 1))).map u8V, c6 - ((cnt (dkS s) (dvS s) es N (min (i + (1 + k100)) (rcTo (dkS s) (dvS s) es N).length) (a + 1))).length⟩)] [famR 100001 es] (AllL.cons_ (rfl) (AllL.cons_ (rfl) (AllL.cons_ (rfl) (AllL.cons_ (rfl) (AllL.cons_ (rfl) (AllL.cons_ (rfl) (AllL.cons_ (rfl) trivial))))))) (AllL.cons_ (rfl) (AllL.cons_ (rfl) (AllL.cons_ (rfl) (AllL.cons_ ((by rw [← cnt_next]; rfl)) (AllL.cons_ ((by rw [← cnt_next]; rfl)) trivial))))) (AllL.cons_ FK2 trivial) ?_
      exact hKc2 _ _ _ (by omega) ⟨a + 1, A6, b6, c6, rfl, rfl, rfl, g6a, (by rw [← cnt_next]; exact g6b), (by omega), hoa2⟩


end Go.Proofs.YtcjfkmhijfcciaaDoor

