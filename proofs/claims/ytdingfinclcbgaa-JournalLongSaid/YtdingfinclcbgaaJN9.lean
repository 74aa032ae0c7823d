import Derived.Test.YtdingfinclcbgaaJN8
namespace Go.Proofs.Ytdingfinclcbgaa
set_option maxRecDepth 20000
set_option linter.unusedVariables false
set_option linter.unusedSimpArgs false
open Go.SE Go.RowKit
def uL (es : List BG) : Int := (es.length : Int)
theorem uL_push (es : List BG) (x : BG) : uL (es ++ [x]) = uL es + 1 := by simp [uL]
theorem open_step {es : List BG} {L : List (List (BitVec 8))} {x : BG} (hm : es.map BG.l = L.take es.length) (hx : x.l = L.getD es.length []) (h : es.length < L.length) : (es ++ [x]).map BG.l = L.take (es ++ [x]).length := by
 rw [List.map_append, hm, List.length_append, List.length_singleton, List.map_cons, List.map_nil, hx, List.take_succ_eq_append_getElem h, List.getD_eq_getElem?_getD, List.getElem?_eq_getElem h]
 rfl
theorem Q_one {P : Program} {E : Env} {fr : Fr} {H : Hp} {o : Oper} {x : BG} {k : Nat} (hk : k < 1) (h : QStep P E fr H o (BG.v (([x] : List BG).getD k default))) : QStep P E fr H o (BG.v x) := by
 obtain rfl : k = 0 := by omega
 exact h
theorem ent_step {es : List BG} {l : List (BitVec 8)} {A : Option Addr} {b c : Nat} (hm : es.map BG.l = [l].take es.length) (h : es.length < 1) : (es ++ [bG A b c l]).map BG.l = [l].take (es ++ [bG A b c l]).length := by
 have h0 : es = [] := List.eq_nil_of_length_eq_zero (by omega)
 subst h0
 rfl

attribute [local irreducible] sumS
set_option maxHeartbeats 2000000 in
theorem c_Open {bD bS cD nD rD : Nat} {S : List (BitVec 8)} {wr : Int} {ar : Nat} {gen : BitVec 64} {L : List (List (BitVec 8))} (hSl : S.length = nD * 64) (hn : nD ≤ 512) (hc : nD ≤ cD) (hw : 0 ≤ wr) (hw2 : wr ≤ 4611686018427380000) (h4 : 4 ≤ nD) (har : ar ≤ 1) (hg : pkS S 2 = (gen, (ar : Int), true)) (hL : StoredL S nD ar gen L) :
  Con Try.prog 31 [ptr bD 0] [dH false bD bS cD nD wr, rowS false bS S rD] (fun v rs => ∃ (bJ' : Nat) (es : List BG) (A' : Option Addr) (b' c' : Nat), (0 < c' → A' = some ⟨b', 0, none⟩) ∧ es.length ≤ c' ∧ (∀ e ∈ es, e.ok) ∧ es.map BG.l = L ∧ v = .tuple #[ptr bJ' 0, iV 0] ∧ rs = [⟨true, bJ', 0, 82, [ptr bD 0, u64V gen, iV (ar : Int), .slice A' es.length c', iV (uL es), .bool false], 0⟩, ⟨true, b', 0, 27, es.map BG.v, c' - es.length⟩] ++ es.map (BG.row 5)) := by
 refine Con.enter Try.func31 Try.ntmps31 (Nat.le_of_ble_eq_true rfl) rfl fun w => ?_
 refine At.seq ?_
 refine At.region ?_
 refine At.p (some 2) (P_assign rfl rfl) ?_
 refine At.p (some 3) (P_assign rfl rfl) ?_
 refine At.nil ?_
 refine At.next ?_
 refine At.seq ?_
 refine At.seq ?_
 refine At.region ?_
 refine At.p (some 12) (P_move rfl rfl) ?_
 refine At.s (S_callV (some 13) [(0, _), (1, _)] [] (vs := [_]) rfl en43 rfl (VN (by simp) rfl View.all (VN (by simp) rfl View.all V0)) (by simp) (c_usable (bD := bD) (bS := bS) (cD := cD) (nD := nD) (rD := rD) (S := S) (wr := wr)  (by omega) (by omega) (by omega) (by omega) (by omega) (by omega)) (by rintro _ _ ⟨rfl, rfl⟩; rfl) ?_)
 rintro _ _ ⟨rfl, rfl⟩
 refine At.p (some 4) (P_assign rfl rfl) ?_
 refine At.nil ?_
 refine At.next ?_
 refine At.seq ?_
 refine At.region ?_
 refine At.p (some 14) (P_move rfl rfl) ?_
 refine At.p (some 15) (P_cmp rfl rfl rfl rfl rfl rfl) ?_
 refine At.nil ?_
 refine At.next ?_
 refine At.cond rfl (fun h15 => by exact absurd h15 (by decide)) (fun h15 => ?_)
 have e15 : 0 = 0 := bne_eq_false_iff_eq.1 h15
 refine At.skip ?_
 refine At.next ?_
 refine At.seq ?_
 refine At.region ?_
 refine At.p (some 18) (P_move rfl rfl) ?_
 refine At.s (S_callV (some 19) [(0, _), (1, _)] [] (vs := [_]) rfl en44 rfl (VN (by simp) rfl View.all (VN (by simp) rfl View.all V0)) (by simp) (c_newestG (bD := bD) (bS := bS) (cD := cD) (nD := nD) (rD := rD) (S := S) (wr := wr) (g := gen) (ar := (ar : Int)) (f := true) (by omega) (by omega) (by omega) (by omega) (by omega) (by omega) hg) (by rintro _ _ ⟨rfl, rfl⟩; rfl) ?_)
 rintro _ _ ⟨rfl, rfl⟩
 refine At.p (some 17) (P_move rfl rfl) ?_
 refine At.p (some 20) (P_extract rfl rfl rfl) ?_
 refine At.p (some 21) (P_extract rfl rfl rfl) ?_
 refine At.p (some 22) (P_extract rfl rfl rfl) ?_
 refine At.p (some 23) (P_extract rfl rfl rfl) ?_
 refine At.p (some 5) (P_assign rfl rfl) ?_
 refine At.p (some 6) (P_assign rfl rfl) ?_
 refine At.p (some 7) (P_assign rfl rfl) ?_
 refine At.p (some 8) (P_assign rfl rfl) ?_
 refine At.nil ?_
 refine At.next ?_
 refine At.seq ?_
 refine At.block ?_
 refine At.seq ?_
 refine At.region ?_
 refine At.p (some 25) (P_move rfl rfl) ?_
 refine At.p (some 26) (P_cmp rfl rfl rfl rfl rfl rfl) ?_
 refine At.p (some 24) (P_assign rfl rfl) ?_
 refine At.nil ?_
 refine At.next ?_
 refine At.cond rfl (fun h24 => by exact absurd h24 (by decide)) (fun h24 => ?_)
 have e24 : 0 = 0 := bne_eq_false_iff_eq.1 h24
 refine At.seq ?_
 refine At.region ?_
 refine At.p (some 29) (P_move rfl rfl) ?_
 refine At.p (some 30) (P_not rfl rfl) ?_
 refine At.p (some 28) (P_assign rfl rfl) ?_
 refine At.nil ?_
 refine At.next ?_
 refine At.cond rfl (fun h28 => by simp at h28) (fun h28 => ?_)
 refine At.skip ?_
 refine At.inb_n ?_
 refine At.next ?_
 refine At.seq ?_
 refine At.region ?_
 refine At.p (some 31) (P_move rfl rfl) ?_
 refine At.p (some 32) (P_move rfl rfl) ?_
 refine At.p (some 33) (P_move rfl rfl) ?_
 refine At.p (some 34) (P_build_struct (parts := _) (vs := [(0, _), (1, _), (2, _)]) rfl Try.underlying82 ze82 pl82 rfl rfl) ?_
 refine At.s (S_box (some 35) 35 (zs := [ptr bD 0, u64V gen, iV (ar : Int), .slice none 0 0, iV 0, .bool false]) rfl rfl rfl (fun b35 => ?_))
 refine At.empty 54 0 27 ?_
 refine At.toM [(0, ptr bD 0), (2, .pointer none), (3, iV 0), (4, iV 0), (5, u64V gen), (6, iV (ar : Int)), (7, .bool true), (8, iV 0), (12, ptr bD 0), (13, iV 0), (14, iV 0), (15, .bool (0 != 0)), (17, .tuple #[u64V gen, iV (ar : Int), .bool true, iV 0]), (18, ptr bD 0), (19, .tuple #[u64V gen, iV (ar : Int), .bool true, iV 0]), (20, u64V gen), (21, iV (ar : Int)), (22, .bool true), (23, iV 0), (24, .bool (0 != 0)), (25, iV 0), (26, .bool (0 != 0)), (28, .bool (!true)), (29, .bool true), (30, .bool (!true)), (31, ptr bD 0), (32, u64V gen), (33, iV (ar : Int)), (34, .agg ([ptr bD 0, u64V gen, iV (ar : Int), .slice none 0 0, iV 0, .bool false]).toArray), (35, ptr b35 0)] [(0, dH false bD bS cD nD wr), (1, rowS false bS S rD), (35, ⟨true, b35, 0, 82, [ptr bD 0, u64V gen, iV (ar : Int), .slice none 0 0, iV 0, .bool false], 0⟩), (54, ⟨true, 0, 0, 27, (([] : List BG)).map BG.v, 0⟩)] [] (AllL.cons_ rfl (AllL.cons_ rfl (AllL.cons_ rfl (AllL.cons_ rfl (AllL.cons_ rfl (AllL.cons_ rfl (AllL.cons_ rfl (AllL.cons_ rfl (AllL.cons_ rfl (AllL.cons_ rfl (AllL.cons_ rfl (AllL.cons_ rfl (AllL.cons_ rfl (AllL.cons_ rfl (AllL.cons_ rfl (AllL.cons_ rfl (AllL.cons_ rfl (AllL.cons_ rfl (AllL.cons_ rfl (AllL.cons_ rfl (AllL.cons_ rfl (AllL.cons_ rfl (AllL.cons_ rfl (AllL.cons_ rfl (AllL.cons_ rfl (AllL.cons_ rfl (AllL.cons_ rfl (AllL.cons_ rfl (AllL.cons_ rfl (AllL.cons_ rfl trivial)))))))))))))))))))))))))))))) (AllL.cons_ rfl (AllL.cons_ rfl (AllL.cons_ rfl (AllL.cons_ rfl trivial)))) trivial ?_
 refine At.famNew 100000 (fun i => (([] : List BG).getD i default).row 5) ?_
 refine At.p (some 9) (P_assign rfl rfl) ?_
 refine At.nil ?_
 refine At.next ?_
 refine At.block ?_
 refine At.loopx (I := fun m fr H => ∃ (es : List BG) (A2 : Option Addr) (b2 : Nat) (c2 : Nat), m = L.length - es.length ∧ fr = frOf [(0, ptr bD 0), (4, iV 0), (5, u64V gen), (6, iV (ar : Int)), (7, .bool true), (8, iV 0), (9, ptr b35 0), (12, ptr bD 0), (13, iV 0), (14, iV 0), (15, .bool (0 != 0)), (17, .tuple #[u64V gen, iV (ar : Int), .bool true, iV 0]), (18, ptr bD 0), (19, .tuple #[u64V gen, iV (ar : Int), .bool true, iV 0]), (20, u64V gen), (21, iV (ar : Int)), (22, .bool true), (23, iV 0), (24, .bool (0 != 0)), (25, iV 0), (26, .bool (0 != 0)), (28, .bool (!true)), (29, .bool true), (30, .bool (!true)), (31, ptr bD 0), (32, u64V gen), (33, iV (ar : Int)), (34, .agg ([ptr bD 0, u64V gen, iV (ar : Int), .slice none 0 0, iV 0, .bool false]).toArray), (35, ptr b35 0)] ∧ H = famsOf (hOf [(0, dH false bD bS cD nD wr), (1, rowS false bS S rD), (35, ⟨true, b35, 0, 82, [ptr bD 0, u64V gen, iV (ar : Int), .slice A2 es.length c2, iV (uL es), .bool false], 0⟩), (54, ⟨true, b2, 0, 27, (es).map BG.v, c2 - (es).length⟩)]) [famG 100000 5 es] ∧ (0 < c2 → A2 = some ⟨b2, 0, none⟩) ∧ (es.length ≤ c2) ∧ (∀ e ∈ es, e.ok) ∧ (es.map BG.l = L.take es.length) ∧ (es.length ≤ L.length)) ?_ ?_
 ·
  intro Kc0 hKc0
  refine At.toM [(0, _), (4, _), (5, _), (6, _), (7, _), (8, _), (9, _), (12, _), (13, _), (14, _), (15, _), (17, _), (18, _), (19, _), (20, _), (21, _), (22, _), (23, _), (24, _), (25, _), (26, _), (28, _), (29, _), (30, _), (31, _), (32, _), (33, _), (34, _), (35, _)] [(0, _), (1, _), (35, _), (54, _)] [famG 100000 5 ([] : List BG)] (AllL.cons_ (rfl) (AllL.cons_ (rfl) (AllL.cons_ (rfl) (AllL.cons_ (rfl) (AllL.cons_ (rfl) (AllL.cons_ (rfl) (AllL.cons_ (rfl) (AllL.cons_ (rfl) (AllL.cons_ (rfl) (AllL.cons_ (rfl) (AllL.cons_ (rfl) (AllL.cons_ (rfl) (AllL.cons_ (rfl) (AllL.cons_ (rfl) (AllL.cons_ (rfl) (AllL.cons_ (rfl) (AllL.cons_ (rfl) (AllL.cons_ (rfl) (AllL.cons_ (rfl) (AllL.cons_ (rfl) (AllL.cons_ (rfl) (AllL.cons_ (rfl) (AllL.cons_ (rfl) (AllL.cons_ (rfl) (AllL.cons_ (rfl) (AllL.cons_ (rfl) (AllL.cons_ (rfl) (AllL.cons_ (rfl) (AllL.cons_ (rfl) trivial))))))))))))))))))))))))))))) (AllL.cons_ (rfl) (AllL.cons_ (rfl) (AllL.cons_ (rfl) (AllL.cons_ (rfl) trivial)))) (AllL.cons_ FK trivial) ?_
  exact hKc0 _ _ _ ⟨([] : List BG), none, 0, 0, rfl, rfl, rfl, (fun h => absurd h (Nat.lt_irrefl 0)), (Nat.le_refl _), (fun e he => nomatch he), rfl, (Nat.zero_le _)⟩
 ·
  rintro m fr H ⟨es, A2, b2, c2, rfl, rfl, rfl, hA2, hc2, hes, hm, hk⟩ Kc0 hKc0
  have huL : uL es = (es.length : Int) := rfl
  have hL1 := hL.1
  refine At.block ?_
  refine At.seq ?_
  refine At.region ?_
  refine At.p (some 37) (P_move rfl rfl) ?_
  refine At.s (S_callV (some 38) [(0, _), (1, _), (35, _)] [38] (vs := [_]) rfl en50 rfl (VN (by simp) rfl View.all (VN (by simp) rfl View.all (VN (by simp) rfl View.all V0))) (by simp) (c_readU (bD := bD) (bS := bS) (cD := cD) (nD := nD) (rD := rD) (S := S) (wr := wr) (bJ := b35) (ar := ar) (gen := gen) (Aj := A2) (nj := es.length) (cj := c2) (L := L) (by omega) (by omega) (by omega) (by omega) (by omega) (by omega) (by omega) hL (by omega)) (by rintro _ _ ⟨x38, hxo, hxl, hxn, hxs, rfl, rfl⟩; rfl) ?_)
  rintro _ _ ⟨x38, hxo, hxl, hxn, hxs, rfl, rfl⟩
  refine At.p (some 36) (P_move rfl rfl) ?_
  refine At.p (some 39) (P_extract rfl rfl rfl) ?_
  refine At.p (some 40) (P_extract rfl rfl rfl) ?_
  refine At.p (some 10) (P_assign rfl rfl) ?_
  refine At.p (some 11) (P_assign rfl rfl) ?_
  refine At.nil ?_
  refine At.next ?_
  refine At.seq ?_
  refine At.seq ?_
  refine At.region ?_
  refine At.p (some 41) (P_move rfl rfl) ?_
  refine At.p (some 42) (P_cmp rfl rfl rfl rfl rfl rfl) ?_
  refine At.nil ?_
  refine At.next ?_
  refine At.cond rfl (fun h42 => by exact absurd h42 (by decide)) (fun h42 => ?_)
  have e42 : 0 = 0 := bne_eq_false_iff_eq.1 h42
  refine At.skip ?_
  refine At.next ?_
  refine At.seq ?_
  refine At.seq ?_
  refine At.region ?_
  refine At.p (some 44) (P_move rfl rfl) ?_
  refine At.p (some 45) (P_eql_slnil rfl Try.underlying27 rfl rfl) ?_
  refine At.nil ?_
  refine At.next ?_
  refine At.cond rfl (fun h45 => ?_) (fun h45 => ?_)
  · -- cond 45 t
   have hLe : es.length = L.length := by
    rcases Nat.lt_or_ge es.length L.length with h | h
    · rw [(hxs h).2.2] at h45; cases h45
    · omega
   refine At.seq ?_
   refine At.region ?_
   refine At.p (some 46) (P_move rfl rfl) ?_
   refine At.p (some 2) (P_assign rfl rfl) ?_
   refine At.p (some 3) (P_assign rfl rfl) ?_
   refine At.nil ?_
   refine At.next ?_
   refine At.ret ?_
   refine At.thn_r ?_
   refine At.inb_r ?_
   refine At.thn_r ?_
   refine At.inb_r ?_
   refine At.giveV (.inl rfl) ([35, 54] ++ famK 100000 es.length) (rows' := [_, _] ++ es.map (BG.row 5)) (ResV.tmps (vs := [_, _]) rfl ⟨rfl, rfl, trivial⟩) (give_famG rfl FK) (famK_app (by simp) ⟨rfl, rfl⟩) (own_famG (by simp)) ?_
   exact ⟨b35, es, A2, b2, c2, hA2, hc2, hes, by rw [hm, hLe, List.take_length], rfl, rfl⟩
  · -- cond 45 f
   have hLt : es.length < L.length := by
    rcases Nat.lt_or_ge es.length L.length with h | h
    · exact h
    · rw [hxn (by omega)] at h45; cases h45
   obtain ⟨hx1, hx2, hx3⟩ := hxs hLt
   refine At.skip ?_
   refine At.next ?_
   refine At.seq ?_
   refine At.region ?_
   refine At.p (some 47) (P_move rfl rfl) ?_
   refine At.p (some 48) (P_move rfl rfl) ?_
   refine At.p (some 49) (P_nilCheck rfl rfl) ?_
   refine At.p (some 50) (P_fieldAddr0 (off := 3) rfl Try.underlying82 rfl sz44 rfl rfl) ?_
   refine At.q (some 51) (Q_loadO (k := 35) rfl rfl Try.underlying44 rfl rfl rfl) ?_
   refine At.p (some 52) (P_move rfl rfl) ?_
   refine At.s (S_buildSliceV (some 53) 53 (([x38]).map BG.v) rfl Try.underlying44 sz27 ze27 rfl rfl (by decide) (by decide) rfl rfl (fun b53 => ?_))
   refine At.s (S_appendM (some 54) 54 ((es ++ [x38])) (f := BG.v) (l := es) (L := [x38]) (m := 1) rfl Try.underlying44 Try.underlying44 (.inr ⟨_, rfl⟩) sz27 by27 ze27 rfl rfl (fun h => ⟨(fun h => hA2 (by omega)) h, rfl⟩) LN OG (Src.all (k := 53) (l := [x38]) rfl (fun _ => rfl) (fun _ => ⟨rfl, rfl, rfl⟩) LN) (fun _ => rfl) OG OG rfl LN ?_)
   intro A54 b54 c54 g54a g54b
   refine At.p (some 55) (P_nilCheck rfl rfl) ?_
   refine At.p (some 56) (P_fieldAddr0 (off := 3) rfl Try.underlying82 rfl sz44 rfl rfl) ?_
   refine At.s (S_store none (k := 35) rfl rfl rfl sz44 rfl rfl rfl LN ?_)
   refine At.nil ?_
   refine At.next ?_
   refine At.draws 7 [] [.q false [0, 1, 2, 3, 4, 5, 6]] (by kernel_rfl) (by kernel_rfl) ?_
   refine At.wp (some 57) (P_move rfl rfl) ?_
   refine At.wp (some 58) (P_nilCheck rfl rfl) ?_
   refine At.wp (some 59) (P_fieldAddr0 (off := 4) rfl Try.underlying82 rfl sz3 rfl rfl) ?_
   refine At.wq (some 60) (Q_loadO (k := 35) rfl rfl Try.underlying3 rfl rfl rfl) ?_
   refine At.wp (some 61) (P_move rfl rfl) ?_
   refine At.wp (some 62) (P_len_sl rfl rfl ⟨_, Try.underlying27⟩ rfl) ?_
   refine At.wcV (some 63) [] (vs := [_]) rfl en26 rfl V0 (c_Need (n := x38.l.length) OG) ?_
   refine At.wqn ?_
   refine At.wt rfl ?_
   refine At.p (some 64) (P_add_i rfl rfl rfl (by omega)) ?_
   refine At.p (some 65) (P_nilCheck rfl rfl) ?_
   refine At.p (some 66) (P_fieldAddr0 (off := 4) rfl Try.underlying82 rfl sz3 rfl rfl) ?_
   refine At.s (S_store none (k := 35) rfl rfl rfl sz3 rfl rfl rfl LN ?_)
   refine At.nil ?_
   refine At.inb_n ?_
   refine At.next ?_
   refine At.toM [(0, ptr bD 0), (4, iV 0), (5, u64V gen), (6, iV (ar : Int)), (7, .bool true), (8, iV 0), (9, ptr b35 0), (10, .slice x38.A x38.l.length x38.c), (11, iV 0), (12, ptr bD 0), (13, iV 0), (14, iV 0), (15, .bool (0 != 0)), (17, .tuple #[u64V gen, iV (ar : Int), .bool true, iV 0]), (18, ptr bD 0), (19, .tuple #[u64V gen, iV (ar : Int), .bool true, iV 0]), (20, u64V gen), (21, iV (ar : Int)), (22, .bool true), (23, iV 0), (24, .bool (0 != 0)), (25, iV 0), (26, .bool (0 != 0)), (28, .bool (!true)), (29, .bool true), (30, .bool (!true)), (31, ptr bD 0), (32, u64V gen), (33, iV (ar : Int)), (34, .agg ([ptr bD 0, u64V gen, iV (ar : Int), .slice none 0 0, iV 0, .bool false]).toArray), (35, ptr b35 0), (36, .tuple #[.slice x38.A x38.l.length x38.c, iV 0]), (37, ptr b35 0), (38, .tuple #[.slice x38.A x38.l.length x38.c, iV 0]), (39, .slice x38.A x38.l.length x38.c), (40, iV 0), (41, iV 0), (42, .bool (0 != 0)), (44, .slice x38.A x38.l.length x38.c), (45, .bool x38.A.isNone), (47, ptr b35 0), (48, ptr b35 0), (49, ptr b35 0), (50, ptr b35 3), (51, .slice A2 es.length c2), (52, .slice x38.A x38.l.length x38.c), (53, .slice (some ⟨b53, 0, none⟩) 1 1), (54, .slice A54 ((es ++ [x38]).length) c54), (55, ptr b35 0), (56, ptr b35 3), (57, ptr b35 0), (58, ptr b35 0), (59, ptr b35 4), (60, iV (uL es)), (61, .slice x38.A x38.l.length x38.c), (62, iV (x38.l.length : Int)), (63, iV ((x38.l.length + 81) / 64 : Nat)), (64, iV ((uL es) + ((x38.l.length + 81) / 64 : Nat))), (65, ptr b35 0), (66, ptr b35 4)] [(38, ⟨true, x38.b, 0, 5, (x38.w).map u8V, x38.c + x38.q - x38.w.length⟩), (0, dH false bD bS cD nD wr), (1, rowS false bS S rD), (35, ⟨true, b35, 0, 82, [ptr bD 0, u64V gen, iV (ar : Int), .slice A54 ((es ++ [x38]).length) c54, iV ((uL es) + ((x38.l.length + 81) / 64 : Nat)), .bool false], 0⟩), (53, ⟨true, b53, 0, 27, ([x38]).map BG.v, 0⟩), (54, ⟨true, b54, 0, 27, ((es ++ [x38])).map BG.v, c54 - ((es ++ [x38])).length⟩)] [famG 100000 5 es] (AllL.cons_ rfl (AllL.cons_ rfl (AllL.cons_ rfl (AllL.cons_ rfl (AllL.cons_ rfl (AllL.cons_ rfl (AllL.cons_ rfl (AllL.cons_ rfl (AllL.cons_ rfl (AllL.cons_ rfl (AllL.cons_ rfl (AllL.cons_ rfl (AllL.cons_ rfl (AllL.cons_ rfl (AllL.cons_ rfl (AllL.cons_ rfl (AllL.cons_ rfl (AllL.cons_ rfl (AllL.cons_ rfl (AllL.cons_ rfl (AllL.cons_ rfl (AllL.cons_ rfl (AllL.cons_ rfl (AllL.cons_ rfl (AllL.cons_ rfl (AllL.cons_ rfl (AllL.cons_ rfl (AllL.cons_ rfl (AllL.cons_ rfl (AllL.cons_ rfl (AllL.cons_ rfl (AllL.cons_ rfl (AllL.cons_ rfl (AllL.cons_ rfl (AllL.cons_ rfl (AllL.cons_ rfl (AllL.cons_ rfl (AllL.cons_ rfl (AllL.cons_ rfl (AllL.cons_ rfl (AllL.cons_ rfl (AllL.cons_ rfl (AllL.cons_ rfl (AllL.cons_ rfl (AllL.cons_ rfl (AllL.cons_ rfl (AllL.cons_ rfl (AllL.cons_ rfl (AllL.cons_ rfl (AllL.cons_ rfl (AllL.cons_ rfl (AllL.cons_ rfl (AllL.cons_ rfl (AllL.cons_ rfl (AllL.cons_ rfl (AllL.cons_ rfl (AllL.cons_ rfl (AllL.cons_ rfl (AllL.cons_ rfl (AllL.cons_ rfl trivial)))))))))))))))))))))))))))))))))))))))))))))))))))))))))))) (AllL.cons_ rfl (AllL.cons_ rfl (AllL.cons_ rfl (AllL.cons_ rfl (AllL.cons_ rfl (AllL.cons_ rfl trivial)))))) (AllL.cons_ FK trivial) ?_
   refine At.famPushG x38 (AllL.cons_ rfl (AllL.cons_ rfl (AllL.cons_ rfl (AllL.cons_ rfl (AllL.cons_ rfl trivial))))) rfl trivial ?_
   refine At.toM [(0, _), (4, _), (5, _), (6, _), (7, _), (8, _), (9, _), (12, _), (13, _), (14, _), (15, _), (17, _), (18, _), (19, _), (20, _), (21, _), (22, _), (23, _), (24, _), (25, _), (26, _), (28, _), (29, _), (30, _), (31, _), (32, _), (33, _), (34, _), (35, _)] [(0, _), (1, _), (35, ⟨true, b35, 0, 82, [ptr bD 0, u64V gen, iV (ar : Int), .slice A54 (es ++ [x38]).length c54, iV (uL (es ++ [x38])), .bool false], 0⟩), (54, _)] [famG 100000 5 (es ++ [x38])] (AllL.cons_ (rfl) (AllL.cons_ (rfl) (AllL.cons_ (rfl) (AllL.cons_ (rfl) (AllL.cons_ (rfl) (AllL.cons_ (rfl) (AllL.cons_ (rfl) (AllL.cons_ (rfl) (AllL.cons_ (rfl) (AllL.cons_ (rfl) (AllL.cons_ (rfl) (AllL.cons_ (rfl) (AllL.cons_ (rfl) (AllL.cons_ (rfl) (AllL.cons_ (rfl) (AllL.cons_ (rfl) (AllL.cons_ (rfl) (AllL.cons_ (rfl) (AllL.cons_ (rfl) (AllL.cons_ (rfl) (AllL.cons_ (rfl) (AllL.cons_ (rfl) (AllL.cons_ (rfl) (AllL.cons_ (rfl) (AllL.cons_ (rfl) (AllL.cons_ (rfl) (AllL.cons_ (rfl) (AllL.cons_ (rfl) (AllL.cons_ (rfl) trivial))))))))))))))))))))))))))))) (AllL.cons_ (rfl) (AllL.cons_ (rfl) (AllL.cons_ ((by rw [show uL (es ++ [x38]) = uL es + (((x38.l.length + 81) / 64 : Nat) : Int) by rw [uL_push]; omega]; rfl)) (AllL.cons_ (rfl) trivial)))) (AllL.cons_ FK trivial) ?_
   exact hKc0 _ _ _ (by simp only [List.length_append, List.length_singleton]; omega) ⟨(es ++ [x38]), A54, b54, c54, rfl, rfl, rfl, g54a, g54b, (BG.okP hes hxo), (open_step hm hxl hLt), (by rw [List.length_append, List.length_singleton]; omega)⟩

set_option maxHeartbeats 2000000 in
theorem c_Ent1 {bJ bD cj bj : Nat} {ar uj : Int} {gen : BitVec 64} {Aj : Option Addr} {x : BG} (hAj : Aj = some ⟨bj, 0, none⟩) (hxA : x.A = some ⟨x.b, x.q, none⟩) (hxl : x.l.length ≤ 1000) :
  Con Try.prog 33 [ptr bJ 0] [⟨false, bJ, 0, 82, [ptr bD 0, u64V gen, iV ar, .slice Aj 1 cj, iV uj, .bool false], 0⟩, ⟨false, bj, 0, 0, ([x]).map BG.v, 0⟩, pRow x.b x.q x.l] (fun v rs => ∃ (es : List BG) (A' : Option Addr) (b' c' : Nat), (0 < c' → A' = some ⟨b', 0, none⟩) ∧ es.length ≤ c' ∧ (∀ e ∈ es, e.ok) ∧ es.map BG.l = [x.l] ∧ v = .slice A' es.length c' ∧ rs = [⟨true, b', 0, 27, es.map BG.v, c' - es.length⟩] ++ es.map (BG.row 5)) := by
 refine Con.enter Try.func33 Try.ntmps33 (Nat.le_of_ble_eq_true rfl) rfl fun w => ?_
 refine At.seq ?_
 refine At.region ?_
 refine At.p (some 2) (P_assign rfl rfl) ?_
 refine At.nil ?_
 refine At.next ?_
 refine At.seq ?_
 refine At.seq ?_
 refine At.region ?_
 refine At.p (some 6) (P_move rfl rfl) ?_
 refine At.p (some 7) (P_eql_ptr rfl rfl rfl Try.underlying50) ?_
 refine At.p (some 8) (P_move rfl rfl) ?_
 refine At.gy (t := 8) rfl rfl rfl rfl ?_
 refine At.p (some 9) (P_move rfl rfl) ?_
 refine At.gy (t := 8) rfl rfl rfl rfl ?_
 refine At.p (some 10) (P_nilCheck rfl rfl) ?_
 refine At.gy (t := 8) rfl rfl rfl rfl ?_
 refine At.p (some 11) (P_fieldAddr0 (off := 5) rfl Try.underlying82 rfl sz4 rfl rfl) ?_
 refine At.gy (t := 8) rfl rfl rfl rfl ?_
 refine At.q (some 12) (Q_loadO (k := 0) rfl rfl Try.underlying4 rfl rfl rfl) ?_
 refine At.p (some 13) (P_pick_f rfl rfl rfl rfl) ?_
 refine At.nil ?_
 refine At.next ?_
 refine At.cond rfl (fun h13 => by simp at h13) (fun h13 => ?_)
 refine At.skip ?_
 refine At.next ?_
 refine At.seq ?_
 refine At.region ?_
 refine At.p (some 3) (P_assign rfl rfl) ?_
 refine At.nil ?_
 refine At.next ?_
 refine At.seq ?_
 refine At.seq ?_
 refine At.region ?_
 refine At.p (some 14) (P_move rfl rfl) ?_
 refine At.p (some 15) (P_nilCheck rfl rfl) ?_
 refine At.p (some 16) (P_fieldAddr0 (off := 3) rfl Try.underlying82 rfl sz44 rfl rfl) ?_
 refine At.q (some 17) (Q_loadO (k := 0) rfl rfl Try.underlying44 rfl rfl rfl) ?_
 refine At.p (some 18) (P_len_sl rfl rfl ⟨_, Try.underlying44⟩ rfl) ?_
 refine At.empty 54 0 27 ?_
 refine At.toM [(0, ptr bJ 0), (2, .slice none 0 0), (3, .slice none 0 0), (6, ptr bJ 0), (7, .bool false), (8, .bool false), (9, ptr bJ 0), (10, ptr bJ 0), (11, ptr bJ 5), (12, .bool false), (13, .bool false), (14, ptr bJ 0), (15, ptr bJ 0), (16, ptr bJ 3), (17, .slice Aj 1 cj), (18, iV 1)] [(0, ⟨false, bJ, 0, 82, [ptr bD 0, u64V gen, iV ar, .slice Aj 1 cj, iV uj, .bool false], 0⟩), (1, ⟨false, bj, 0, 0, ([x]).map BG.v, 0⟩), (2, pRow x.b x.q x.l), (54, ⟨true, 0, 0, 27, (([] : List BG)).map BG.v, 0⟩)] [] (AllL.cons_ rfl (AllL.cons_ rfl (AllL.cons_ rfl (AllL.cons_ rfl (AllL.cons_ rfl (AllL.cons_ rfl (AllL.cons_ rfl (AllL.cons_ rfl (AllL.cons_ rfl (AllL.cons_ rfl (AllL.cons_ rfl (AllL.cons_ rfl (AllL.cons_ rfl (AllL.cons_ rfl (AllL.cons_ rfl (AllL.cons_ rfl trivial)))))))))))))))) (AllL.cons_ rfl (AllL.cons_ rfl (AllL.cons_ rfl (AllL.cons_ rfl trivial)))) trivial ?_
 refine At.famNew 100000 (fun i => (([] : List BG).getD i default).row 5) ?_
 refine At.p (some 19) (P_move rfl rfl) ?_
 refine At.nil ?_
 refine At.next ?_
 refine At.block ?_
 refine At.loopx (I := fun m fr H => ∃ (es : List BG) (A2 : Option Addr) (b2 : Nat) (c2 : Nat), m = 1 - es.length ∧ fr = frOf [(0, ptr bJ 0), (2, .slice none 0 0), (3, .slice A2 es.length c2), (6, ptr bJ 0), (7, .bool false), (8, .bool false), (9, ptr bJ 0), (10, ptr bJ 0), (11, ptr bJ 5), (12, .bool false), (13, .bool false), (14, ptr bJ 0), (15, ptr bJ 0), (16, ptr bJ 3), (17, .slice Aj 1 cj), (18, iV 1), (19, iV (es.length : Int))] ∧ H = famsOf (hOf [(0, ⟨false, bJ, 0, 82, [ptr bD 0, u64V gen, iV ar, .slice Aj 1 cj, iV uj, .bool false], 0⟩), (1, ⟨false, bj, 0, 0, ([x]).map BG.v, 0⟩), (2, pRow x.b x.q x.l), (54, ⟨true, b2, 0, 27, (es).map BG.v, c2 - (es).length⟩)]) [famG 100000 5 es] ∧ (0 < c2 → A2 = some ⟨b2, 0, none⟩) ∧ (es.length ≤ c2) ∧ (∀ e ∈ es, e.ok) ∧ (es.map BG.l = [x.l].take es.length) ∧ (es.length ≤ 1)) ?_ ?_
 ·
  intro Kc0 hKc0
  refine At.toM [(0, _), (2, _), (3, _), (6, _), (7, _), (8, _), (9, _), (10, _), (11, _), (12, _), (13, _), (14, _), (15, _), (16, _), (17, _), (18, _), (19, _)] [(0, _), (1, _), (2, _), (54, _)] [famG 100000 5 ([] : List BG)] (AllL.cons_ (rfl) (AllL.cons_ (rfl) (AllL.cons_ (rfl) (AllL.cons_ (rfl) (AllL.cons_ (rfl) (AllL.cons_ (rfl) (AllL.cons_ (rfl) (AllL.cons_ (rfl) (AllL.cons_ (rfl) (AllL.cons_ (rfl) (AllL.cons_ (rfl) (AllL.cons_ (rfl) (AllL.cons_ (rfl) (AllL.cons_ (rfl) (AllL.cons_ (rfl) (AllL.cons_ (rfl) (AllL.cons_ (rfl) trivial))))))))))))))))) (AllL.cons_ (rfl) (AllL.cons_ (rfl) (AllL.cons_ (rfl) (AllL.cons_ (rfl) trivial)))) (AllL.cons_ FK trivial) ?_
  exact hKc0 _ _ _ ⟨([] : List BG), none, 0, 0, rfl, rfl, rfl, (fun h => absurd h (Nat.lt_irrefl 0)), (Nat.le_refl _), (fun e he => nomatch he), rfl, (Nat.zero_le _)⟩
 ·
  rintro m fr H ⟨es, A2, b2, c2, rfl, rfl, rfl, hA2, hc2, hes, hm, hk⟩ Kc0 hKc0
  refine At.seq ?_
  refine At.region ?_
  refine At.p (some 20) (P_cmp rfl rfl rfl rfl rfl rfl) ?_
  refine At.nil ?_
  refine At.next ?_
  refine At.seq ?_
  refine At.cond rfl (fun h20 => ?_) (fun h20 => ?_)
  · -- cond 20 t
   have e20 : (es.length : Int) < 1 := of_decide_eq_true h20
   have hlt : es.length < 1 := by omega
   refine At.skip ?_
   refine At.next ?_
   refine At.seq ?_
   refine At.block ?_
   refine At.seq ?_
   refine At.region ?_
   refine At.p (some 21) (P_indexAddr_slz (b := bj) (j := es.length) rfl Try.underlying44 sz27 rfl ((fun _ => hAj) OG) rfl RO OG) ?_
   refine At.q (some 22) (Q_one (k := es.length) hlt (Q_loadM (k := 1) (f := BG.v) (l := [x]) (default : BG) rfl rfl Try.underlying27 rfl rfl OG)) ?_
   refine At.p (some 5) (P_assign rfl rfl) ?_
   refine At.nil ?_
   refine At.next ?_
   refine At.region ?_
   refine At.p (some 23) (P_move rfl rfl) ?_
   refine At.p (some 24) (P_move rfl rfl) ?_
   refine At.s (S_callV (some 25) [(2, _)] [25] (vs := [_]) rfl en51 rfl (VN (by simp) rfl View.all V0) (by simp) (c_BClone (b := x.l) (nb := x.l.length) (Ab := x.A) (cb := x.c) (bb := x.b) (qb := x.q) LN (fun _ => hxA) OG) (by rintro _ _ ⟨A25, b25, c25, g25a, g25b, rfl, rfl⟩; rfl) ?_)
   rintro _ _ ⟨A25, b25, c25, g25a, g25b, rfl, rfl⟩
   refine At.s (S_buildSliceV (some 26) 26 (([(bG A25 b25 c25 x.l)]).map BG.v) rfl Try.underlying44 sz27 ze27 rfl rfl (by decide) (by decide) rfl rfl (fun b26 => ?_))
   refine At.s (S_appendM (some 27) 54 ((es ++ [(bG A25 b25 c25 x.l)])) (f := BG.v) (l := es) (L := [(bG A25 b25 c25 x.l)]) (m := 1) rfl Try.underlying44 Try.underlying44 (.inr ⟨_, rfl⟩) sz27 by27 ze27 rfl rfl (fun h => ⟨hA2 h, rfl⟩) LN OG (Src.all (k := 26) (l := [(bG A25 b25 c25 x.l)]) rfl (fun _ => rfl) (fun _ => ⟨rfl, rfl, rfl⟩) LN) (fun _ => rfl) OG OG rfl LN ?_)
   intro A27 b27 c27 g27a g27b
   refine At.p (some 3) (P_assign rfl rfl) ?_
   refine At.nil ?_
   refine At.inb_n ?_
   refine At.next ?_
   refine At.region ?_
   refine At.p (some 28) (P_add_i rfl rfl rfl (by omega)) ?_
   refine At.p (some 19) (P_move rfl rfl) ?_
   refine At.nil ?_
   refine At.next ?_
   refine At.toM [(0, ptr bJ 0), (2, .slice none 0 0), (3, .slice A27 ((es ++ [(bG A25 b25 c25 x.l)]).length) c27), (5, .slice x.A x.l.length x.c), (6, ptr bJ 0), (7, .bool false), (8, .bool false), (9, ptr bJ 0), (10, ptr bJ 0), (11, ptr bJ 5), (12, .bool false), (13, .bool false), (14, ptr bJ 0), (15, ptr bJ 0), (16, ptr bJ 3), (17, .slice Aj 1 cj), (18, iV 1), (19, iV ((es.length : Int) + 1)), (20, .bool (decide ((es.length : Int) < 1))), (21, ptr bj es.length), (22, .slice x.A x.l.length x.c), (23, .slice A2 es.length c2), (24, .slice x.A x.l.length x.c), (25, .slice A25 x.l.length c25), (26, .slice (some ⟨b26, 0, none⟩) 1 1), (27, .slice A27 ((es ++ [(bG A25 b25 c25 x.l)]).length) c27), (28, iV ((es.length : Int) + 1))] [(25, ⟨true, b25, 0, 5, (x.l).map u8V, c25 - (x.l).length⟩), (0, ⟨false, bJ, 0, 82, [ptr bD 0, u64V gen, iV ar, .slice Aj 1 cj, iV uj, .bool false], 0⟩), (1, ⟨false, bj, 0, 0, ([x]).map BG.v, 0⟩), (2, pRow x.b x.q x.l), (26, ⟨true, b26, 0, 27, ([(bG A25 b25 c25 x.l)]).map BG.v, 0⟩), (54, ⟨true, b27, 0, 27, ((es ++ [(bG A25 b25 c25 x.l)])).map BG.v, c27 - ((es ++ [(bG A25 b25 c25 x.l)])).length⟩)] [famG 100000 5 es] (AllL.cons_ rfl (AllL.cons_ rfl (AllL.cons_ rfl (AllL.cons_ rfl (AllL.cons_ rfl (AllL.cons_ rfl (AllL.cons_ rfl (AllL.cons_ rfl (AllL.cons_ rfl (AllL.cons_ rfl (AllL.cons_ rfl (AllL.cons_ rfl (AllL.cons_ rfl (AllL.cons_ rfl (AllL.cons_ rfl (AllL.cons_ rfl (AllL.cons_ rfl (AllL.cons_ rfl (AllL.cons_ rfl (AllL.cons_ rfl (AllL.cons_ rfl (AllL.cons_ rfl (AllL.cons_ rfl (AllL.cons_ rfl (AllL.cons_ rfl (AllL.cons_ rfl (AllL.cons_ rfl trivial))))))))))))))))))))))))))) (AllL.cons_ rfl (AllL.cons_ rfl (AllL.cons_ rfl (AllL.cons_ rfl (AllL.cons_ rfl (AllL.cons_ rfl trivial)))))) (AllL.cons_ FK trivial) ?_
   refine At.famPushG (bG A25 b25 c25 x.l) (AllL.cons_ rfl (AllL.cons_ rfl (AllL.cons_ rfl (AllL.cons_ rfl (AllL.cons_ rfl trivial))))) rfl trivial ?_
   refine At.toM [(0, _), (2, _), (3, _), (6, _), (7, _), (8, _), (9, _), (10, _), (11, _), (12, _), (13, _), (14, _), (15, _), (16, _), (17, _), (18, _), (19, iV ((es ++ [bG A25 b25 c25 x.l]).length : Int))] [(0, _), (1, _), (2, _), (54, _)] [famG 100000 5 (es ++ [bG A25 b25 c25 x.l])] (AllL.cons_ (rfl) (AllL.cons_ (rfl) (AllL.cons_ (rfl) (AllL.cons_ (rfl) (AllL.cons_ (rfl) (AllL.cons_ (rfl) (AllL.cons_ (rfl) (AllL.cons_ (rfl) (AllL.cons_ (rfl) (AllL.cons_ (rfl) (AllL.cons_ (rfl) (AllL.cons_ (rfl) (AllL.cons_ (rfl) (AllL.cons_ (rfl) (AllL.cons_ (rfl) (AllL.cons_ (rfl) (AllL.cons_ ((congrArg (fun z : Int => some (iV z)) (by simp))) trivial))))))))))))))))) (AllL.cons_ (rfl) (AllL.cons_ (rfl) (AllL.cons_ (rfl) (AllL.cons_ (rfl) trivial)))) (AllL.cons_ FK trivial) ?_
   exact hKc0 _ _ _ (by simp only [List.length_append, List.length_singleton]; omega) ⟨(es ++ [bG A25 b25 c25 x.l]), A27, b27, c27, rfl, rfl, rfl, g27a, g27b, (BG.okP hes (bG_ok g25a g25b)), (ent_step hm hlt), (by rw [List.length_append, List.length_singleton]; omega)⟩
  · -- cond 20 f
   have e20 : ¬ (es.length : Int) < 1 := of_decide_eq_false h20
   refine At.exit ?_
   refine At.thn_e ?_
   refine At.thn_e ?_
   refine At.inb_hit ?_
   refine At.next ?_
   refine At.seq ?_
   refine At.region ?_
   refine At.p (some 29) (P_move rfl rfl) ?_
   refine At.p (some 2) (P_assign rfl rfl) ?_
   refine At.nil ?_
   refine At.next ?_
   refine At.ret ?_
   have hl1 : es.length = 1 := by omega
   refine At.giveV (.inl rfl) ([54] ++ famK 100000 es.length) (rows' := [_] ++ es.map (BG.row 5)) (ResV.tmps (vs := [_]) rfl ⟨rfl, trivial⟩) (give_famG rfl FK) (famK_app (by simp) rfl) (own_famG (by simp)) ?_
   exact ⟨es, A2, b2, c2, hA2, hc2, hes, by rw [hm, hl1]; rfl, rfl, rfl⟩


end Go.Proofs.Ytdingfinclcbgaa

