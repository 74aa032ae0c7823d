import Derived.Test.YtcjfkmhijfcciaaGR9
import Derived.Test.YtcjfkmhijfcciaaKN
import Derived.Test.YtcjfkmhijfcciaaG1
namespace Go.Proofs.Ytcjfkmhijfcciaa
set_option maxRecDepth 20000
set_option linter.unusedVariables false
set_option linter.unusedSimpArgs false
open Go.SE Go.RowKit
attribute [local irreducible] sumS
/-- Numbers, the lower sixteen bits of each. -/
def sfx (l : List Int) : List Int := l.map fun x => ((BitVec.ofInt 16 x).toNat : Int)
theorem sfx_len (l : List Int) : (sfx l).length = l.length := List.length_map _
theorem sfx_mem (l : List Int) : ∀ e ∈ sfx l, 0 ≤ e ∧ e < 65536 := by
 intro e he
 obtain ⟨x, _, rfl⟩ := List.mem_map.1 he
 have := (BitVec.ofInt 16 x).isLt
 omega
theorem sfx_succ {l : List Int} {k : Nat} (h : k < l.length) : sfx (l.take k) ++ [((BitVec.ofInt 16 (l.getD k 0)).toNat : Int)] = sfx (l.take (k + 1)) := by
 rw [List.take_succ_eq_append_getElem h, sfx, sfx, List.map_append, List.getD_eq_getElem?_getD, List.getElem?_eq_getElem h]
 rfl
theorem mem_snoc {l : List Int} {x : Int} (h : ∀ e ∈ l, 0 ≤ e ∧ e < 65536) (h0 : 0 ≤ x) (h1 : x < 65536) : ∀ e ∈ l ++ [x], 0 ≤ e ∧ e < 65536 := by
 intro e he
 rcases List.mem_append.1 he with h2 | h2
 · exact h e h2
 ·
  rw [List.mem_singleton.1 h2]
  exact ⟨h0, h1⟩
@[simp] theorem helloB_len (rnd sess : List (BitVec 8)) (su : List Int) (m : Nat) (X : List (BitVec 8)) : (helloB rnd sess su m X).length = rnd.length + sess.length + 2 * su.length + X.length + 9 := by
 simp [helloB]
 omega
theorem hello_cut (rnd sess : List (BitVec 8)) (su : List Int) (m : Nat) (X : List (BitVec 8)) (hX : 0 < X.length) {n : Nat} (hn : n = (helloB rnd sess su m X).length - 1) :
  beN 2 771 ++ (rnd ++ (beN 1 sess.length ++ (sess ++ (beN 2 (2 * su.length) ++ (nsB su ++ (beN 1 1 ++ ([0#8] ++ (beN 2 m ++ X.take (X.length - 1))))))))) = ((helloB rnd sess su m X).drop 0).take n := by
 have h : ∀ P Q : List (BitVec 8), (P ++ Q).take (P.length + (X.length - 1)) = P ++ Q.take (X.length - 1) := fun P Q => List.take_length_add_append _
 have e : helloB rnd sess su m X = (beN 2 771 ++ (rnd ++ (beN 1 sess.length ++ (sess ++ (beN 2 (2 * su.length) ++ (nsB su ++ (beN 1 1 ++ ([0#8] ++ beN 2 m)))))))) ++ X := by
  simp [helloB]
 have hl := helloB_len rnd sess su m X
 rw [List.drop_zero, hn, e, show ((beN 2 771 ++ (rnd ++ (beN 1 sess.length ++ (sess ++ (beN 2 (2 * su.length) ++ (nsB su ++ (beN 1 1 ++ ([0#8] ++ beN 2 m)))))))) ++ X).length - 1 = (beN 2 771 ++ (rnd ++ (beN 1 sess.length ++ (sess ++ (beN 2 (2 * su.length) ++ (nsB su ++ (beN 1 1 ++ ([0#8] ++ beN 2 m)))))))).length + (X.length - 1) by rw [List.length_append]; omega, h]
 simp

theorem sum_abc : sumS [97#8, 98#8, 99#8] = [186#8, 120#8, 22#8, 191#8, 143#8, 1#8, 207#8, 234#8, 65#8, 65#8, 64#8, 222#8, 93#8, 174#8, 34#8, 35#8, 176#8, 3#8, 97#8, 163#8, 150#8, 23#8, 122#8, 156#8, 180#8, 16#8, 255#8, 97#8, 242#8, 0#8, 21#8, 173#8] := abc_sum

set_option maxHeartbeats 2000000 in
theorem c_stands   :
  Con Try.prog 12 [] [] (fun v rs => v = .bool true ∧ rs = []) := by
 refine Con.enter Try.func12 Try.ntmps12 (Nat.le_of_ble_eq_true rfl) rfl fun w => ?_
 refine At.seq ?_
 refine At.region ?_
 refine At.p (some 0) (P_assign rfl rfl) ?_
 refine At.nil ?_
 refine At.next ?_
 refine At.seq ?_
 refine At.region ?_
 refine At.s (S_buildSliceV (some 2) 2 (([97#8, 98#8, 99#8]).map u8V) rfl Try.underlying23 sz5 ze5 rfl rfl (by decide) (by decide) rfl ⟨rfl, rfl, rfl⟩ (fun b2 => ?_))
 refine At.s (S_convB (some 3) (k := 2) rfl Try.underlying23 Try.underlying5 rfl rfl (by simp) ?_)
 refine At.s (S_callV (some 4) [(2, _)] [] (vs := [_]) rfl en18 rfl (VN (by simp) rfl View.all V0) (by simp) (c_SumN (l := [97#8, 98#8, 99#8]) (n := 3) (A := (some ⟨b2, 0, none⟩)) (bq := b2) (q := 0) LN (fun _ => rfl) OG) (by rintro _ _ ⟨rfl, rfl⟩; rfl) ?_)
 rintro _ _ ⟨rfl, rfl⟩
 have := sumS_len [97#8, 98#8, 99#8]
 simp only [sum_abc]
 refine At.s (S_alloc (some 1) 1 (zs := (List.replicate 32 0#8).map u8V) rfl ze22 rfl (fun b1 => ?_))
 refine At.s (S_storeA none (k := 1) (vs := ([186#8, 120#8, 22#8, 191#8, 143#8, 1#8, 207#8, 234#8, 65#8, 65#8, 64#8, 222#8, 93#8, 174#8, 34#8, 35#8, 176#8, 3#8, 97#8, 163#8, 150#8, 23#8, 122#8, 156#8, 180#8, 16#8, 255#8, 97#8, 242#8, 0#8, 21#8, 173#8]).map u8V) rfl rfl rfl (by rw [sz22]; exact congrArg some LN) rfl (one_map (fun _ => rfl)) NG rfl LN ?_)
 refine At.nil ?_
 refine At.next ?_
 refine At.seq ?_
 refine At.region ?_
 refine At.p (some 5) (P_indexAddr_arr1 (j := 0) rfl Try.underlying22 sz5 rfl rfl rfl (by decide)) ?_
 refine At.q (some 6) (Q_loadM (k := 1) (f := u8V) (l := [186#8, 120#8, 22#8, 191#8, 143#8, 1#8, 207#8, 234#8, 65#8, 65#8, 64#8, 222#8, 93#8, 174#8, 34#8, 35#8, 176#8, 3#8, 97#8, 163#8, 150#8, 23#8, 122#8, 156#8, 180#8, 16#8, 255#8, 97#8, 242#8, 0#8, 21#8, 173#8]) (0#8) rfl rfl Try.underlying5 rfl rfl OG) ?_
 refine At.p (some 7) (P_eql_w (n := 8) (b := 186#8) rfl rfl rfl) ?_
 refine At.p (some 8) (P_move rfl rfl) ?_
 refine At.gy (t := 8) rfl (by decide) rfl rfl ?_
 refine At.p (some 9) (P_indexAddr_arr1 (j := 31) rfl Try.underlying22 sz5 rfl rfl rfl (by decide)) ?_
 refine At.gy (t := 8) rfl (by decide) rfl rfl ?_
 refine At.q (some 10) (Q_loadM (k := 1) (f := u8V) (l := [186#8, 120#8, 22#8, 191#8, 143#8, 1#8, 207#8, 234#8, 65#8, 65#8, 64#8, 222#8, 93#8, 174#8, 34#8, 35#8, 176#8, 3#8, 97#8, 163#8, 150#8, 23#8, 122#8, 156#8, 180#8, 16#8, 255#8, 97#8, 242#8, 0#8, 21#8, 173#8]) (0#8) rfl rfl Try.underlying5 rfl rfl OG) ?_
 refine At.gy (t := 8) rfl (by decide) rfl rfl ?_
 refine At.p (some 11) (P_eql_w (n := 8) (b := 173#8) rfl rfl rfl) ?_
 refine At.p (some 12) (P_pick_t rfl rfl (by decide) rfl) ?_
 refine At.p (some 0) (P_assign rfl rfl) ?_
 refine At.nil ?_
 refine At.next ?_
 refine At.ret ?_
 have hq0 : (([186#8, 120#8, 22#8, 191#8, 143#8, 1#8, 207#8, 234#8, 65#8, 65#8, 64#8, 222#8, 93#8, 174#8, 34#8, 35#8, 176#8, 3#8, 97#8, 163#8, 150#8, 23#8, 122#8, 156#8, 180#8, 16#8, 255#8, 97#8, 242#8, 0#8, 21#8, 173#8].getD 31 0#8) == (173#8)) = true := (by decide)
 refine At.give (.inl rfl) [] (rows' := []) (vs := [_]) rfl ⟨rfl, trivial⟩ rfl (by simp) (by simp) ⟨(by first | (rw [hq0]; try rfl; done) | (rw [← hq0]; try rfl; done) | (simp only [hq0]; try rfl; done) | (simp only [← hq0]; try rfl; done) | rfl), (by first | (rw [hq0]; try rfl; done) | (rw [← hq0]; try rfl; done) | (simp only [hq0]; try rfl; done) | (simp only [← hq0]; try rfl; done) | rfl)⟩

set_option maxHeartbeats 2000000 in
theorem l_Greet {random : List (BitVec 8)} {session : List (BitVec 8)} {Asession : Option Addr} {nsession csession bsession qsession : Nat} {suites : List Int} {As : Option Addr} {nsu cs bs qs : Nat} (hrandom : random.length = 32) (hnsession : session.length = nsession) (hAsession : 0 < nsession → Asession = some ⟨bsession, qsession, none⟩) (hcsession : nsession ≤ csession) (hns : suites.length = nsu) (hAs : 0 < nsu → As = some ⟨bs, qs, none⟩) :
  Con Try.prog 3 [aggK random, .slice Asession nsession csession, .slice As nsu cs] [pRow bsession qsession session, ⟨false, bs, qs, 0, (suites).map iV, 0⟩] (fun v rs => v = .bool true ∧ rs = []) := by
 refine Con.enter Try.func3 Try.ntmps3 (Nat.le_of_ble_eq_true rfl) rfl fun w => ?_
 refine At.seq ?_
 refine At.region ?_
 refine At.s (S_box (some 3) 3 (zs := (random).map u8V) rfl rfl rfl (fun b3 => ?_))
 refine At.p (some 6) (P_assign rfl rfl) ?_
 refine At.nil ?_
 refine At.next ?_
 refine At.seq ?_
 refine At.bBruteG [9] (fun fr H => ∃ (b31 : Nat) (b7 : Nat), fr = frOf [(2, .slice As nsu cs), (3, ptr b3 0), (6, .bool false), (7, ptr b7 0)] ∧ H = hOf [(0, pRow bsession qsession session), (1, ⟨false, bs, qs, 0, (suites).map iV, 0⟩), (3, ⟨true, b3, 0, 22, (random).map u8V, 0⟩), (7, ⟨true, b7, 0, 29, [(random).map u8V, [.slice (cut Asession 0 csession 1) ((min nsession 32) - 0) (csession - 0), .slice none 0 0, .slice (some ⟨b31, 0, none⟩) 1 1, .slice none 0 0, .slice none 0 0, .slice none 0 0, .slice none 0 0, .slice none 0 0, .slice none 0 0, .slice none 0 0]].flatten, 0⟩), (31, ⟨true, b31, 0, 3, ([772]).map iV, 0⟩)] ∧ True) (by kernel_rfl) ?_ ?_
 ·
  intro Kb hKb G hGi hGo
  have hG1_0 (b31 : Nat) (b7 : Nat) : G 0 #[true, true, true, true, true, true, true, true, true, true] (frOf [(2, .slice As nsu cs), (3, ptr b3 0), (6, .bool false), (7, ptr b7 0)]) (hOf [(0, pRow bsession qsession session), (1, ⟨false, bs, qs, 0, (suites).map iV, 0⟩), (3, ⟨true, b3, 0, 22, (random).map u8V, 0⟩), (7, ⟨true, b7, 0, 29, [(random).map u8V, [.slice (cut Asession 0 csession 1) ((min nsession 32) - 0) (csession - 0), .slice none 0 0, .slice (some ⟨b31, 0, none⟩) 1 1, .slice none 0 0, .slice none 0 0, .slice none 0 0, .slice none 0 0, .slice none 0 0, .slice none 0 0, .slice none 0 0]].flatten, 0⟩), (31, ⟨true, b31, 0, 3, ([772]).map iV, 0⟩)]) := by
   refine hGo ?_
   refine At.bEnd (by kernel_rfl) ?_
   refine At.next ?_
   exact hKb _ _ ⟨b31, b7, rfl, rfl, trivial⟩
  have hG1_1 (b31 : Nat) (b7 : Nat) : G 1 #[true, true, true, true, true, true, true, true, true, false] (frOf [(2, .slice As nsu cs), (3, ptr b3 0), (6, .bool false), (7, ptr b7 0), (32, .agg ([(random).map u8V, [.slice (cut Asession 0 csession 1) ((min nsession 32) - 0) (csession - 0), .slice none 0 0, .slice (some ⟨b31, 0, none⟩) 1 1, .slice none 0 0, .slice none 0 0, .slice none 0 0, .slice none 0 0, .slice none 0 0, .slice none 0 0, .slice none 0 0]].flatten).toArray)]) (hOf [(0, pRow bsession qsession session), (1, ⟨false, bs, qs, 0, (suites).map iV, 0⟩), (3, ⟨true, b3, 0, 22, (random).map u8V, 0⟩), (7, ⟨true, b7, 0, 29, [(List.replicate 32 0#8).map u8V, [.slice none 0 0, .slice none 0 0, .slice none 0 0, .slice none 0 0, .slice none 0 0, .slice none 0 0, .slice none 0 0, .slice none 0 0, .slice none 0 0, .slice none 0 0]].flatten, 0⟩), (31, ⟨true, b31, 0, 3, ([772]).map iV, 0⟩)]) := by
   refine hGo ?_
   refine At.bStep [9] (by kernel_rfl) (by simp) ?_
   refine At.bS true (by kernel_rfl) (S_storeA none (k := 7) (vs := [(random).map u8V, [.slice (cut Asession 0 csession 1) ((min nsession 32) - 0) (csession - 0), .slice none 0 0, .slice (some ⟨b31, 0, none⟩) 1 1, .slice none 0 0, .slice none 0 0, .slice none 0 0, .slice none 0 0, .slice none 0 0, .slice none 0 0, .slice none 0 0]].flatten) rfl rfl rfl (by rw [sz29]; exact congrArg some LN) rfl (one_flatc (one_map (fun _ => rfl)) (one_flatc (one_cons rfl (one_cons rfl (one_cons rfl (one_cons rfl (one_cons rfl (one_cons rfl (one_cons rfl (one_cons rfl (one_cons rfl (one_cons rfl one_nil)))))))))) one_flat0)) NG rfl LN ?_)
   exact At.into (hGi (hG1_0 b31 b7)) rfl rfl
  have hG1_2 (b31 : Nat) : G 2 #[true, true, true, true, true, true, true, true, false, false] (frOf [(2, .slice As nsu cs), (3, ptr b3 0), (6, .bool false), (32, .agg ([(random).map u8V, [.slice (cut Asession 0 csession 1) ((min nsession 32) - 0) (csession - 0), .slice none 0 0, .slice (some ⟨b31, 0, none⟩) 1 1, .slice none 0 0, .slice none 0 0, .slice none 0 0, .slice none 0 0, .slice none 0 0, .slice none 0 0, .slice none 0 0]].flatten).toArray)]) (hOf [(0, pRow bsession qsession session), (1, ⟨false, bs, qs, 0, (suites).map iV, 0⟩), (3, ⟨true, b3, 0, 22, (random).map u8V, 0⟩), (31, ⟨true, b31, 0, 3, ([772]).map iV, 0⟩)]) := by
   clear hG1_0
   refine hGo ?_
   refine At.bStep [8] (by kernel_rfl) (by simp) ?_
   refine At.bS false (by kernel_rfl) (S_alloc (some 7) 7 (zs := [(List.replicate 32 0#8).map u8V, [.slice none 0 0, .slice none 0 0, .slice none 0 0, .slice none 0 0, .slice none 0 0, .slice none 0 0, .slice none 0 0, .slice none 0 0, .slice none 0 0, .slice none 0 0]].flatten) rfl ze29 rfl (fun b7 => ?_))
   exact At.into (hGi (hG1_1 b31 b7)) rfl rfl
  have hG1_3 (b7 : Nat) : G 3 #[true, true, true, true, true, true, false, false, true, false] (frOf [(2, .slice As nsu cs), (3, ptr b3 0), (6, .bool false), (7, ptr b7 0), (25, aggK random), (30, .slice (cut Asession 0 csession 1) ((min nsession 32) - 0) (csession - 0))]) (hOf [(0, pRow bsession qsession session), (1, ⟨false, bs, qs, 0, (suites).map iV, 0⟩), (3, ⟨true, b3, 0, 22, (random).map u8V, 0⟩), (7, ⟨true, b7, 0, 29, [(List.replicate 32 0#8).map u8V, [.slice none 0 0, .slice none 0 0, .slice none 0 0, .slice none 0 0, .slice none 0 0, .slice none 0 0, .slice none 0 0, .slice none 0 0, .slice none 0 0, .slice none 0 0]].flatten, 0⟩)]) := by
   clear hG1_0 hG1_2
   refine hGo ?_
   refine At.bStep [6] (by kernel_rfl) (by simp) ?_
   refine At.bS false (by kernel_rfl) (S_buildSliceV (some 31) 31 (([772]).map iV) rfl Try.underlying24 sz3 ze3 rfl rfl (by decide) (by decide) rfl rfl (fun b31 => ?_))
   refine At.bP  7 (some 32) (P_build_struct (cs := ([(random).map u8V, [.slice (cut Asession 0 csession 1) ((min nsession 32) - 0) (csession - 0), .slice none 0 0, .slice (some ⟨b31, 0, none⟩) 1 1, .slice none 0 0, .slice none 0 0, .slice none 0 0, .slice none 0 0, .slice none 0 0, .slice none 0 0, .slice none 0 0]].flatten).toArray) (parts := _) (vs := [(0, _), (1, _), (3, _)]) rfl Try.underlying29 ze29 pl29 rfl (by show Instr.fill _ ([(List.replicate 32 0#8).map u8V, [.slice none 0 0], [.slice none 0 0], [.slice none 0 0], [.slice none 0 0], [.slice none 0 0], [.slice none 0 0], [.slice none 0 0], [.slice none 0 0], [.slice none 0 0], [.slice none 0 0]].flatten).toArray _ = _; refine fill_seg (k := 0) (vs := (random).map u8V) rfl rfl LN rfl LN LN ?_; refine fill_seg (k := 1) (vs := [.slice (cut Asession 0 csession 1) ((min nsession 32) - 0) (csession - 0)]) rfl rfl LN rfl LN LN ?_; refine fill_seg (k := 3) (vs := [.slice (some ⟨b31, 0, none⟩) 1 1]) rfl rfl LN rfl LN LN ?_; exact fill_end (by simp))) (by kernel_rfl) (by kernel_rfl) ?_
   exact At.into (hGi (hG1_1 b31 b7)) rfl rfl
  have hG1_4  : G 4 #[true, true, true, true, true, true, false, false, false, false] (frOf [(2, .slice As nsu cs), (3, ptr b3 0), (6, .bool false), (25, aggK random), (30, .slice (cut Asession 0 csession 1) ((min nsession 32) - 0) (csession - 0))]) (hOf [(0, pRow bsession qsession session), (1, ⟨false, bs, qs, 0, (suites).map iV, 0⟩), (3, ⟨true, b3, 0, 22, (random).map u8V, 0⟩)]) := by
   clear hG1_0 hG1_1
   refine hGo ?_
   refine At.bStep [6, 8] (by kernel_rfl) (by simp) ?_
   refine ⟨?_, ?_⟩
   ·
    refine At.bS false (by kernel_rfl) (S_buildSliceV (some 31) 31 (([772]).map iV) rfl Try.underlying24 sz3 ze3 rfl rfl (by decide) (by decide) rfl rfl (fun b31 => ?_))
    refine At.bP  7 (some 32) (P_build_struct (cs := ([(random).map u8V, [.slice (cut Asession 0 csession 1) ((min nsession 32) - 0) (csession - 0), .slice none 0 0, .slice (some ⟨b31, 0, none⟩) 1 1, .slice none 0 0, .slice none 0 0, .slice none 0 0, .slice none 0 0, .slice none 0 0, .slice none 0 0, .slice none 0 0]].flatten).toArray) (parts := _) (vs := [(0, _), (1, _), (3, _)]) rfl Try.underlying29 ze29 pl29 rfl (by show Instr.fill _ ([(List.replicate 32 0#8).map u8V, [.slice none 0 0], [.slice none 0 0], [.slice none 0 0], [.slice none 0 0], [.slice none 0 0], [.slice none 0 0], [.slice none 0 0], [.slice none 0 0], [.slice none 0 0], [.slice none 0 0]].flatten).toArray _ = _; refine fill_seg (k := 0) (vs := (random).map u8V) rfl rfl LN rfl LN LN ?_; refine fill_seg (k := 1) (vs := [.slice (cut Asession 0 csession 1) ((min nsession 32) - 0) (csession - 0)]) rfl rfl LN rfl LN LN ?_; refine fill_seg (k := 3) (vs := [.slice (some ⟨b31, 0, none⟩) 1 1]) rfl rfl LN rfl LN LN ?_; exact fill_end (by simp))) (by kernel_rfl) (by kernel_rfl) ?_
    exact At.into (hGi (hG1_2 b31)) rfl rfl
   ·
    refine At.bS false (by kernel_rfl) (S_alloc (some 7) 7 (zs := [(List.replicate 32 0#8).map u8V, [.slice none 0 0, .slice none 0 0, .slice none 0 0, .slice none 0 0, .slice none 0 0, .slice none 0 0, .slice none 0 0, .slice none 0 0, .slice none 0 0, .slice none 0 0]].flatten) rfl ze29 rfl (fun b7 => ?_))
    exact At.into (hGi (hG1_3 b7)) rfl rfl
  clear hG1_0 hG1_1 hG1_2 hG1_3
  refine hGo ?_
  refine At.bQ  0 (some 25) (Q_loadA (k := 3) rfl rfl Try.underlying22 rfl sz22 LN rfl) (by kernel_rfl) (by kernel_rfl) ?_
  refine At.bP  1 (some 26) (P_move rfl rfl) (by kernel_rfl) (by kernel_rfl) ?_
  refine At.bP  2 (some 27) (P_move rfl rfl) (by kernel_rfl) (by kernel_rfl) ?_
  refine At.bP  3 (some 28) (P_len_sl rfl rfl ⟨_, Try.underlying23⟩ rfl) (by kernel_rfl) (by kernel_rfl) ?_
  refine At.bP  4 (some 29) (P_min2 rfl rfl rfl rfl) (by kernel_rfl) (by kernel_rfl) ?_
  refine At.bP  5 (some 30) (P_slice_sl (l := 0) (h := (min nsession 32)) (m := csession) rfl Try.underlying23 sz5 rfl rfl ⟨_, _, rfl, by omega⟩ rfl DO DO DO) (by kernel_rfl) (by kernel_rfl) ?_
  exact At.into (hGi (hG1_4 )) rfl rfl
 ·
  rintro fr H ⟨b31, b7, rfl, rfl, -⟩
  refine At.next ?_
  refine At.seqJ (fun fr H => ∃ (su0 : List Int) (A2 : Option Addr) (b2 c2 : Nat), fr = frOf [(2, .slice As nsu cs), (3, ptr b3 0), (6, .bool false), (7, ptr b7 0)] ∧ H = hOf [(0, pRow bsession qsession session), (1, ⟨false, bs, qs, 0, (suites).map iV, 0⟩), (3, ⟨true, b3, 0, 22, (random).map u8V, 0⟩), (7, ⟨true, b7, 0, 29, [(random).map u8V, [.slice (cut Asession 0 csession 1) ((min nsession 32) - 0) (csession - 0), .slice A2 su0.length c2, .slice (some ⟨b31, 0, none⟩) 1 1, .slice none 0 0, .slice none 0 0, .slice none 0 0, .slice none 0 0, .slice none 0 0, .slice none 0 0, .slice none 0 0]].flatten, 0⟩), (31, ⟨true, b31, 0, 3, ([772]).map iV, 0⟩), (54, ⟨true, b2, 0, 3, (su0).map iV, c2 - (su0).length⟩)] ∧ (0 < c2 → A2 = some ⟨b2, 0, none⟩) ∧ (su0.length ≤ c2) ∧ (su0.length ≤ 7) ∧ (∀ e ∈ su0, 0 ≤ e ∧ e < 65536)) ?_ ?_
  ·
   intro Kj1 hKj1
   refine At.seq ?_
   refine At.region ?_
   refine At.p (some 8) (P_assign rfl rfl) ?_
   refine At.nil ?_
   refine At.next ?_
   refine At.block ?_
   refine At.empty 54 0 3 ?_
   refine At.loopx (I := fun m fr H => ∃ (k : Nat) (A2 : Option Addr) (b2 c2 : Nat), m = 7 - k ∧ fr = frOf [(2, .slice As nsu cs), (3, ptr b3 0), (6, .bool false), (7, ptr b7 0), (8, iV (k : Int))] ∧ H = hOf [(0, pRow bsession qsession session), (1, ⟨false, bs, qs, 0, (suites).map iV, 0⟩), (3, ⟨true, b3, 0, 22, (random).map u8V, 0⟩), (7, ⟨true, b7, 0, 29, [(random).map u8V, [.slice (cut Asession 0 csession 1) ((min nsession 32) - 0) (csession - 0), .slice A2 ((sfx (suites.take k)).length) c2, .slice (some ⟨b31, 0, none⟩) 1 1, .slice none 0 0, .slice none 0 0, .slice none 0 0, .slice none 0 0, .slice none 0 0, .slice none 0 0, .slice none 0 0]].flatten, 0⟩), (31, ⟨true, b31, 0, 3, ([772]).map iV, 0⟩), (54, ⟨true, b2, 0, 3, ((sfx (suites.take k))).map iV, c2 - ((sfx (suites.take k))).length⟩)] ∧ (k ≤ nsu) ∧ (k ≤ 7) ∧ (0 < c2 → A2 = some ⟨b2, 0, none⟩) ∧ ((sfx (suites.take k)).length ≤ c2)) ?_ ?_
   ·
    intro Kc0 hKc0
    refine At.to [(2, _), (3, _), (6, _), (7, _), (8, _)] [(0, _), (1, _), (3, _), (7, _), (31, _), (54, _)] (AllL.cons_ (rfl) (AllL.cons_ (rfl) (AllL.cons_ (rfl) (AllL.cons_ (rfl) (AllL.cons_ (rfl) trivial))))) (AllL.cons_ (rfl) (AllL.cons_ (rfl) (AllL.cons_ (rfl) (AllL.cons_ (rfl) (AllL.cons_ (rfl) (AllL.cons_ (rfl) trivial)))))) ?_
    exact hKc0 _ _ _ ⟨0, none, 0, 0, rfl, rfl, rfl, (Nat.zero_le _), (Nat.zero_le _), (fun h => absurd h (Nat.lt_irrefl 0)), (Nat.le_refl _)⟩
   ·
    rintro m fr H ⟨k, A2, b2, c2, rfl, rfl, rfl, hk, hk7, hA2, hc2⟩ Kc0 hKc0
    have hfl : (sfx (suites.take k)).length = k := by rw [sfx_len, List.length_take]; omega
    refine At.seq ?_
    refine At.seq ?_
    rcases (by omega : (k < nsu ∧ k < 7) ∨ nsu ≤ k ∨ (k < nsu ∧ 7 ≤ k)) with ⟨hq1, hq2⟩ | hq1 | ⟨hq1, hq2⟩
    · -- case 0
     refine At.region ?_
     refine At.p (some 33) (P_move rfl rfl) ?_
     refine At.p (some 34) (P_move rfl rfl) ?_
     refine At.p (some 35) (P_len_sl rfl rfl ⟨_, Try.underlying24⟩ rfl) ?_
     refine At.p (some 36) (P_cmp rfl rfl rfl rfl rfl rfl) ?_
     refine At.p (some 37) (P_move rfl rfl) ?_
     refine At.gy (t := 37) rfl (decide_eq_true (by omega)) rfl rfl ?_
     refine At.p (some 38) (P_move rfl rfl) ?_
     refine At.gy (t := 37) rfl (decide_eq_true (by omega)) rfl rfl ?_
     refine At.p (some 39) (P_cmp rfl rfl rfl rfl rfl rfl) ?_
     refine At.p (some 40) (P_pick_t rfl rfl (decide_eq_true (by omega)) rfl) ?_
     refine At.nil ?_
     refine At.next ?_
     refine At.cond rfl (fun h40 => ?_) (fun h40 => by exfalso; have e9 : ¬ (k : Int) < 7 := of_decide_eq_false h40; first | omega | (simp at e9; done) | (simp at e9; omega))
     have e40 : (k : Int) < 7 := of_decide_eq_true h40
     refine At.skip ?_
     refine At.next ?_
     refine At.seq ?_
     refine At.block ?_
     refine At.draws 9 [] [.q false [0, 1, 2, 3, 4, 5, 6, 7], .e false 8] (by kernel_rfl) (by kernel_rfl) ?_
     refine At.wp (some 43) (P_fieldAddr0 (off := 33) rfl Try.underlying29 rfl sz24 rfl rfl) ?_
     refine At.wq (some 44) (Q_loadO (k := 7) rfl rfl Try.underlying24 rfl rfl (seg_get (i := 1) (p := 1) rfl LN rfl)) ?_
     refine At.wp (some 45) (P_move rfl rfl) ?_
     refine At.wp (some 46) (P_move rfl rfl) ?_
     refine At.wp (some 47) (P_indexAddr_sl1 (b := bs) (m := qs) (j := k) rfl Try.underlying24 sz3 rfl (hAs OG) rfl RO OG) ?_
     refine At.wq (some 48) (Q_loadR (k := 1) (f := iV) (l := suites) (j := k) ((0 : Int)) rfl rfl Try.underlying3 rfl rfl rfl OG) ?_
     refine At.wp (some 49) (P_conv_iw UK.u16 rfl Try.underlying3 Try.underlying30 rfl) ?_
     refine At.wp (some 50) (P_conv_wi UK.u16 (by decide) rfl Try.underlying30 Try.underlying3 rfl) ?_
     refine At.wqn ?_
     refine At.we ?_
     refine S_buildSliceV (some 51) 51 (([((BitVec.ofInt 16 (suites.getD k 0)).toNat : Int)]).map iV) rfl Try.underlying24 sz3 ze3 rfl rfl (by decide) (by decide) rfl rfl (fun b51 => ?_)
     refine At.wt rfl ?_
     refine At.s (S_appendM (some 52) 54 ((sfx (suites.take (k + 1)))) (f := iV) (l := (sfx (suites.take k))) (L := [((BitVec.ofInt 16 (suites.getD k 0)).toNat : Int)]) (m := 1) rfl Try.underlying24 Try.underlying24 (.inr ⟨_, rfl⟩) sz3 by3 ze3 rfl rfl (fun h => ⟨hA2 h, rfl⟩) LN OG (Src.all (k := 51) (l := [((BitVec.ofInt 16 (suites.getD k 0)).toNat : Int)]) rfl (fun _ => rfl) (fun _ => ⟨rfl, rfl, rfl⟩) LN) (fun _ => rfl) OG OG (sfx_succ (by omega)) LN ?_)
     intro A52 b52 c52 g52a g52b
     refine At.p (some 53) (P_fieldAddr0 (off := 33) rfl Try.underlying29 rfl sz24 rfl rfl) ?_
     refine At.s (S_store none (k := 7) rfl rfl rfl sz24 rfl rfl rfl LN ?_)
     refine At.row 7 (⟨true, b7, 0, 29, [(random).map u8V, [.slice (cut Asession 0 csession 1) ((min nsession 32) - 0) (csession - 0), .slice A52 ((sfx (suites.take (k + 1))).length) c52, .slice (some ⟨b31, 0, none⟩) 1 1, .slice none 0 0, .slice none 0 0, .slice none 0 0, .slice none 0 0, .slice none 0 0, .slice none 0 0, .slice none 0 0]].flatten, 0⟩) rfl (seg_set1 (x := ([.slice (cut Asession 0 csession 1) ((min nsession 32) - 0) (csession - 0), .slice A2 ((sfx (suites.take k)).length) c2, .slice (some ⟨b31, 0, none⟩) 1 1, .slice none 0 0, .slice none 0 0, .slice none 0 0, .slice none 0 0, .slice none 0 0, .slice none 0 0, .slice none 0 0] : List Value)) (i := 1) (p := 1) rfl LN OG) ?_
     refine At.nil ?_
     refine At.inb_n ?_
     refine At.next ?_
     refine At.region ?_
     refine At.p (some 41) (P_move rfl rfl) ?_
     refine At.p (some 42) (P_add_i rfl rfl rfl (by omega)) ?_
     refine At.p (some 8) (P_assign rfl rfl) ?_
     refine At.nil ?_
     refine At.next ?_
     refine At.to [(2, _), (3, _), (6, _), (7, _), (8, iV ((k + 1 : Nat) : Int))] [(0, _), (1, _), (3, _), (7, _), (31, _), (54, _)] (AllL.cons_ (rfl) (AllL.cons_ (rfl) (AllL.cons_ (rfl) (AllL.cons_ (rfl) (AllL.cons_ (rfl) trivial))))) (AllL.cons_ (rfl) (AllL.cons_ (rfl) (AllL.cons_ (rfl) (AllL.cons_ (rfl) (AllL.cons_ (rfl) (AllL.cons_ (rfl) trivial)))))) ?_
     exact hKc0 _ _ _ (by omega) ⟨(k + 1), A52, b52, c52, rfl, rfl, rfl, (by omega), (by omega), g52a, g52b⟩
    · -- case 1
     refine At.region ?_
     refine At.p (some 33) (P_move rfl rfl) ?_
     refine At.p (some 34) (P_move rfl rfl) ?_
     refine At.p (some 35) (P_len_sl rfl rfl ⟨_, Try.underlying24⟩ rfl) ?_
     refine At.p (some 36) (P_cmp rfl rfl rfl rfl rfl rfl) ?_
     refine At.p (some 37) (P_move rfl rfl) ?_
     refine At.gn (some 38) (t := 37) rfl (decide_eq_false (by omega)) rfl rfl ?_
     refine At.gn (some 39) (t := 37) rfl (decide_eq_false (by omega)) rfl rfl ?_
     refine At.p (some 40) (P_pick_f rfl rfl (decide_eq_false (by omega)) rfl) ?_
     refine At.nil ?_
     refine At.next ?_
     refine At.cond rfl (fun h40 => by exfalso; first | (simp at h40; done) | (simp at h40; omega)) (fun h40 => ?_)
     refine At.exit ?_
     refine At.thn_e ?_
     refine At.thn_e ?_
     refine At.inb_hit ?_
     refine At.next ?_
     refine At.to [(2, _), (3, _), (6, _), (7, _)] [(0, _), (1, _), (3, _), (7, _), (31, _), (54, _)] (AllL.cons_ (rfl) (AllL.cons_ (rfl) (AllL.cons_ (rfl) (AllL.cons_ (rfl) trivial)))) (AllL.cons_ (rfl) (AllL.cons_ (rfl) (AllL.cons_ (rfl) (AllL.cons_ (rfl) (AllL.cons_ (rfl) (AllL.cons_ (rfl) trivial)))))) ?_
     exact hKj1 _ _ ⟨sfx (suites.take k), A2, b2, c2, rfl, rfl, hA2, hc2, (by rw [sfx_len, List.length_take]; omega), (sfx_mem _)⟩
    · -- case 2
     refine At.region ?_
     refine At.p (some 33) (P_move rfl rfl) ?_
     refine At.p (some 34) (P_move rfl rfl) ?_
     refine At.p (some 35) (P_len_sl rfl rfl ⟨_, Try.underlying24⟩ rfl) ?_
     refine At.p (some 36) (P_cmp rfl rfl rfl rfl rfl rfl) ?_
     refine At.p (some 37) (P_move rfl rfl) ?_
     refine At.gy (t := 37) rfl (decide_eq_true (by omega)) rfl rfl ?_
     refine At.p (some 38) (P_move rfl rfl) ?_
     refine At.gy (t := 37) rfl (decide_eq_true (by omega)) rfl rfl ?_
     refine At.p (some 39) (P_cmp rfl rfl rfl rfl rfl rfl) ?_
     refine At.p (some 40) (P_pick_t rfl rfl (decide_eq_true (by omega)) rfl) ?_
     refine At.nil ?_
     refine At.next ?_
     refine At.cond rfl (fun h40 => by exfalso; have e9 : (k : Int) < 7 := of_decide_eq_true h40; first | omega | (simp at e9; done) | (simp at e9; omega)) (fun h40 => ?_)
     have e40 : ¬ (k : Int) < 7 := of_decide_eq_false h40
     refine At.exit ?_
     refine At.thn_e ?_
     refine At.thn_e ?_
     refine At.inb_hit ?_
     refine At.next ?_
     refine At.to [(2, _), (3, _), (6, _), (7, _)] [(0, _), (1, _), (3, _), (7, _), (31, _), (54, _)] (AllL.cons_ (rfl) (AllL.cons_ (rfl) (AllL.cons_ (rfl) (AllL.cons_ (rfl) trivial)))) (AllL.cons_ (rfl) (AllL.cons_ (rfl) (AllL.cons_ (rfl) (AllL.cons_ (rfl) (AllL.cons_ (rfl) (AllL.cons_ (rfl) trivial)))))) ?_
     exact hKj1 _ _ ⟨sfx (suites.take k), A2, b2, c2, rfl, rfl, hA2, hc2, (by rw [sfx_len, List.length_take]; omega), (sfx_mem _)⟩
  ·
   rintro fr H ⟨su0, A2, b2, c2, rfl, rfl, hA2, hc2, hl7, hsu9⟩
   refine At.seq ?_
   obtain ⟨su, hsu0⟩ : ∃ su, su = su0 ++ [4867] := ⟨_, rfl⟩
   have hsul : su.length = su0.length + 1 := by rw [hsu0]; simp
   have hsum : ∀ e ∈ su, 0 ≤ e ∧ e < 65536 := by rw [hsu0]; exact mem_snoc hsu9 (by decide) (by decide)
   refine At.region ?_
   refine At.p (some 54) (P_fieldAddr0 (off := 33) rfl Try.underlying29 rfl sz24 rfl rfl) ?_
   refine At.q (some 55) (Q_loadO (k := 7) rfl rfl Try.underlying24 rfl rfl (seg_get (i := 1) (p := 1) rfl LN rfl)) ?_
   refine At.s (S_buildSliceV (some 56) 56 (([4867]).map iV) rfl Try.underlying24 sz3 ze3 rfl rfl (by decide) (by decide) rfl rfl (fun b56 => ?_))
   refine At.s (S_appendM (some 57) 54 (su) (f := iV) (l := su0) (L := [4867]) (m := 1) rfl Try.underlying24 Try.underlying24 (.inr ⟨_, rfl⟩) sz3 by3 ze3 rfl rfl (fun h => ⟨hA2 h, rfl⟩) LN OG (Src.all (k := 56) (l := [4867]) rfl (fun _ => rfl) (fun _ => ⟨rfl, rfl, rfl⟩) LN) (fun _ => rfl) OG OG hsu0.symm LN ?_)
   intro A57 b57 c57 g57a g57b
   refine At.p (some 58) (P_fieldAddr0 (off := 33) rfl Try.underlying29 rfl sz24 rfl rfl) ?_
   refine At.s (S_store none (k := 7) rfl rfl rfl sz24 rfl rfl rfl LN ?_)
   refine At.row 7 (⟨true, b7, 0, 29, [(random).map u8V, [.slice (cut Asession 0 csession 1) ((min nsession 32) - 0) (csession - 0), .slice A57 su.length c57, .slice (some ⟨b31, 0, none⟩) 1 1, .slice none 0 0, .slice none 0 0, .slice none 0 0, .slice none 0 0, .slice none 0 0, .slice none 0 0, .slice none 0 0]].flatten, 0⟩) rfl (seg_set1 (x := ([.slice (cut Asession 0 csession 1) ((min nsession 32) - 0) (csession - 0), .slice A2 su0.length c2, .slice (some ⟨b31, 0, none⟩) 1 1, .slice none 0 0, .slice none 0 0, .slice none 0 0, .slice none 0 0, .slice none 0 0, .slice none 0 0, .slice none 0 0] : List Value)) (i := 1) (p := 1) rfl LN OG) ?_
   refine At.nil ?_
   refine At.next ?_
   refine At.seq ?_
   refine At.region ?_
   refine At.q (some 60) (Q_loadA (k := 7) rfl rfl Try.underlying29 rfl sz29 LN rfl) ?_
   refine At.s (S_callV (some 61) [(0, _), (54, _), (31, _)] [61] (vs := [_]) rfl en6 rfl (VN (by simp) rfl (View.sub (j := 0) (m := ((min nsession 32) - 0)) RO rfl) (VN (by simp) rfl View.all (VN (by simp) rfl View.all V0))) (by simp) (k_PutC (rnd := random) (sess := (session.take ((min nsession 32) - 0))) (su := su) (vs := ([772] : List Int)) (As := (cut Asession 0 csession 1)) (ns := ((min nsession 32) - 0)) (cs := (csession - 0)) (bs := bsession) (qs := qsession) (Au := A57) (nu := su.length) (cu := c57) (bu := b57) (qu := 0) (An := (some ⟨b31, 0, none⟩)) (nn := 1) (cn := 1) (bn := b31) (qn := 0) LN LN (fun h => cut_zero (hAsession (by omega))) LN (fun h => g57a (by omega)) hsum LN (fun _ => rfl) (by simp) LN LN LN (by decide) (by decide)) (by rintro _ _ ⟨A61, b61, c61, g61a, g61b, rfl, rfl⟩; rfl) ?_)
   rintro _ _ ⟨A61, b61, c61, g61a, g61b, rfl, rfl⟩
   refine At.p (some 59) (P_move rfl rfl) ?_
   refine At.p (some 62) (P_extract rfl rfl rfl) ?_
   refine At.p (some 63) (P_extract rfl rfl rfl) ?_
   refine At.p (some 9) (P_assign rfl rfl) ?_
   refine At.p (some 10) (P_assign rfl rfl) ?_
   refine At.nil ?_
   refine At.next ?_
   refine At.seq ?_
   refine At.region ?_
   refine At.p (some 65) (P_move rfl rfl) ?_
   refine At.p (some 66) (P_build_struct (parts := _) (vs := [(0, _), (1, _)]) rfl Try.underlying36 ze36 pl36 rfl rfl) ?_
   refine At.s (S_callV (some 67) [(61, _)] [67] (vs := [_]) rfl en7 rfl (VN (by simp) rfl View.all V0) (by simp) (k_MPut (x := (helloB random (session.take ((min nsession 32) - 0)) su (5 + 2 * ([772] : List Int).length) (extB ([772] : List Int)))) (Ax := A61) (nx := ((helloB random (session.take ((min nsession 32) - 0)) su (5 + 2 * ([772] : List Int).length) (extB ([772] : List Int))).length)) (cx := c61) (bx := b61) (qx := 0) LN (fun h => g61a (by omega)) LN) (by rintro _ _ ⟨A67, b67, c67, g67a, g67b, rfl, rfl⟩; rfl) ?_)
   rintro _ _ ⟨A67, b67, c67, g67a, g67b, rfl, rfl⟩
   refine At.p (some 64) (P_move rfl rfl) ?_
   refine At.p (some 68) (P_extract rfl rfl rfl) ?_
   refine At.p (some 69) (P_extract rfl rfl rfl) ?_
   refine At.p (some 11) (P_assign rfl rfl) ?_
   refine At.p (some 12) (P_assign rfl rfl) ?_
   refine At.nil ?_
   refine At.next ?_
   refine At.seq ?_
   refine At.region ?_
   refine At.p (some 70) (P_move rfl rfl) ?_
   refine At.s (S_callV (some 71) [(98, _), (67, _)] [71] (vs := [_, _, _]) rfl en8 rfl (VE rfl rfl (VN (by simp) rfl View.all V0)) (by simp) (k_PutVec3 (b := ([] : List (BitVec 8))) (Ab := none) (nb := 0) (cb := 0) (bb := 0) (qb := 0) (x := (beN 1 1 ++ beN 3 ((helloB random (session.take ((min nsession 32) - 0)) su (5 + 2 * ([772] : List Int).length) (extB ([772] : List Int))).length) ++ (helloB random (session.take ((min nsession 32) - 0)) su (5 + 2 * ([772] : List Int).length) (extB ([772] : List Int))))) (Ax := A67) (nx := ((beN 1 1 ++ beN 3 ((helloB random (session.take ((min nsession 32) - 0)) su (5 + 2 * ([772] : List Int).length) (extB ([772] : List Int))).length) ++ (helloB random (session.take ((min nsession 32) - 0)) su (5 + 2 * ([772] : List Int).length) (extB ([772] : List Int)))).length)) (cx := c67) (bx := b67) (qx := 0) LN (fun h => absurd h (Nat.lt_irrefl 0)) LN (fun h => g67a (by omega)) (by first | omega | (simp [beN_len]; done) | (simp [beN_len]; omega)) LN) (by rintro _ _ ⟨A71, b71, c71, g71a, g71b, rfl, rfl⟩; rfl) ?_)
   rintro _ _ ⟨A71, b71, c71, g71a, g71b, rfl, rfl⟩
   have hbn := beN_len 3 ((beN 1 1 ++ beN 3 ((helloB random (session.take ((min nsession 32) - 0)) su (5 + 2 * ([772] : List Int).length) (extB ([772] : List Int))).length) ++ (helloB random (session.take ((min nsession 32) - 0)) su (5 + 2 * ([772] : List Int).length) (extB ([772] : List Int)))).length)
   have e71 : (([] : List (BitVec 8)) ++ beN 3 ((beN 1 1 ++ beN 3 ((helloB random (session.take ((min nsession 32) - 0)) su (5 + 2 * ([772] : List Int).length) (extB ([772] : List Int))).length) ++ (helloB random (session.take ((min nsession 32) - 0)) su (5 + 2 * ([772] : List Int).length) (extB ([772] : List Int)))).length) ++ (beN 1 1 ++ beN 3 ((helloB random (session.take ((min nsession 32) - 0)) su (5 + 2 * ([772] : List Int).length) (extB ([772] : List Int))).length) ++ (helloB random (session.take ((min nsession 32) - 0)) su (5 + 2 * ([772] : List Int).length) (extB ([772] : List Int))))) = (beN 3 (4 + (helloB random (session.take (min nsession 32 - 0)) su (5 + 2 * ([772] : List Int).length) (extB ([772] : List Int))).length) ++ ((beN 1 1 ++ (beN 3 (helloB random (session.take (min nsession 32 - 0)) su (5 + 2 * ([772] : List Int).length) (extB ([772] : List Int))).length ++ ((helloB random (session.take (min nsession 32 - 0)) su (5 + 2 * ([772] : List Int).length) (extB ([772] : List Int))) ++ ([] : List (BitVec 8))))) ++ ([] : List (BitVec 8)))) := by rw [show 4 + (helloB random (session.take (min nsession 32 - 0)) su (5 + 2 * ([772] : List Int).length) (extB ([772] : List Int))).length = (beN 1 1 ++ beN 3 (helloB random (session.take (min nsession 32 - 0)) su (5 + 2 * ([772] : List Int).length) (extB ([772] : List Int))).length ++ (helloB random (session.take (min nsession 32 - 0)) su (5 + 2 * ([772] : List Int).length) (extB ([772] : List Int)))).length by simp; omega]; simp
   rw [e71] at g71b
   rw [e71]
   refine At.p (some 13) (P_assign rfl rfl) ?_
   refine At.nil ?_
   refine At.next ?_
   refine At.seq ?_
   refine At.region ?_
   refine At.p (some 72) (P_move rfl rfl) ?_
   refine At.s (S_callV (some 73) [(71, _)] [73, 2073] (vs := [_]) rfl en9 rfl (VN (by simp) rfl View.all V0) (by simp) (k_New (b := (beN 3 (4 + (helloB random (session.take (min nsession 32 - 0)) su (5 + 2 * ([772] : List Int).length) (extB ([772] : List Int))).length) ++ ((beN 1 1 ++ (beN 3 ((helloB random (session.take (min nsession 32 - 0)) su (5 + 2 * ([772] : List Int).length) (extB ([772] : List Int))).length) ++ ((helloB random (session.take (min nsession 32 - 0)) su (5 + 2 * ([772] : List Int).length) (extB ([772] : List Int))) ++ ([] : List (BitVec 8))))) ++ ([] : List (BitVec 8))))) (Ab := A71) (nb := ((beN 3 (4 + (helloB random (session.take (min nsession 32 - 0)) su (5 + 2 * ([772] : List Int).length) (extB ([772] : List Int))).length) ++ ((beN 1 1 ++ (beN 3 (helloB random (session.take (min nsession 32 - 0)) su (5 + 2 * ([772] : List Int).length) (extB ([772] : List Int))).length ++ ((helloB random (session.take (min nsession 32 - 0)) su (5 + 2 * ([772] : List Int).length) (extB ([772] : List Int))) ++ ([] : List (BitVec 8))))) ++ ([] : List (BitVec 8)))).length)) (cb := c71) (bb := b71) (qb := 0) LN (fun h => g71a (by omega)) LN) (by rintro _ _ ⟨b73, bb73, A73, c73, g73a, g73b, rfl, rfl⟩; rfl) ?_)
   rintro _ _ ⟨b73, bb73, A73, c73, g73a, g73b, rfl, rfl⟩
   refine At.p (some 14) (P_assign rfl rfl) ?_
   refine At.nil ?_
   refine At.next ?_
   refine At.seq ?_
   refine At.region ?_
   refine At.p (some 74) (P_move rfl rfl) ?_
   refine At.s (S_callR (some 75) [(73, _)] [(2073, _)] [73, 75] (vs := [_, _, _, _]) rfl en10 rfl (ON rfl rfl O0) (by simp) (VN (by simp) rfl (View.sub (j := 0) (m := (beN 3 (4 + (helloB random (session.take (min nsession 32 - 0)) su (5 + 2 * ([772] : List Int).length) (extB ([772] : List Int))).length) ++ ((beN 1 1 ++ (beN 3 ((helloB random (session.take (min nsession 32 - 0)) su (5 + 2 * ([772] : List Int).length) (extB ([772] : List Int))).length) ++ ((helloB random (session.take (min nsession 32 - 0)) su (5 + 2 * ([772] : List Int).length) (extB ([772] : List Int))) ++ ([] : List (BitVec 8))))) ++ ([] : List (BitVec 8)))).length) (by omega) (viewS List.drop_zero)) V0) (by simp) (k_VecA (br := b73) (bl := bb73) (cr := c73) (q := 0) (Ar := A73) (w := 3) (m := (4 + (helloB random (session.take (min nsession 32 - 0)) su (5 + 2 * ([772] : List Int).length) (extB ([772] : List Int))).length)) (lo := 0) (hi := 9999) (x := (beN 1 1 ++ (beN 3 ((helloB random (session.take (min nsession 32 - 0)) su (5 + 2 * ([772] : List Int).length) (extB ([772] : List Int))).length) ++ ((helloB random (session.take (min nsession 32 - 0)) su (5 + 2 * ([772] : List Int).length) (extB ([772] : List Int))) ++ ([] : List (BitVec 8)))))) (rest := ([] : List (BitVec 8))) (beI_beN3 LN) (by decide) (by decide) LN LN LN LN (fun h => g73a (by omega)) LN) (by rintro _ _ ⟨B75, e75, A75, b75, c75, g75c, g75d, g75a, g75b, rfl, rfl⟩; rfl) ?_)
   rintro _ _ ⟨B75, e75, A75, b75, c75, g75c, g75d, g75a, g75b, rfl, rfl⟩
   refine At.p (some 15) (P_assign rfl rfl) ?_
   refine At.nil ?_
   refine At.next ?_
   refine At.seq ?_
   refine At.region ?_
   refine At.p (some 77) (P_move rfl rfl) ?_
   refine At.s (S_callV (some 78) [(75, _)] [78, 1078] (vs := [_]) rfl en11 rfl (VN (by simp) rfl View.all V0) (by simp) (k_Take (x := (helloB random (session.take (min nsession 32 - 0)) su (5 + 2 * ([772] : List Int).length) (extB ([772] : List Int)))) (m := (helloB random (session.take (min nsession 32 - 0)) su (5 + 2 * ([772] : List Int).length) (extB ([772] : List Int))).length) (Ab := A75) (nb := ((beN 1 1 ++ (beN 3 ((helloB random (session.take (min nsession 32 - 0)) su (5 + 2 * ([772] : List Int).length) (extB ([772] : List Int))).length) ++ ((helloB random (session.take (min nsession 32 - 0)) su (5 + 2 * ([772] : List Int).length) (extB ([772] : List Int))) ++ ([] : List (BitVec 8))))).length)) (cb := c75) (bb := b75) (qb := 0) rfl LN (fun h => g75a (by omega)) LN LN LN) (by rintro _ _ ⟨A78, b78, c78, A78r, b78r, c78r, g78a, g78b, g78c, rfl, rfl⟩; rfl) ?_)
   rintro _ _ ⟨A78, b78, c78, A78r, b78r, c78r, g78a, g78b, g78c, rfl, rfl⟩
   refine At.p (some 76) (P_move rfl rfl) ?_
   refine At.p (some 79) (P_extract rfl rfl rfl) ?_
   refine At.p (some 80) (P_extract rfl rfl rfl) ?_
   refine At.p (some 81) (P_extract rfl rfl rfl) ?_
   refine At.p (some 82) (P_extract rfl rfl rfl) ?_
   refine At.s (S_alloc (some 16) 16 (zs := [iV 0, .slice none 0 0]) rfl ze36 rfl (fun b16 => ?_))
   refine At.s (S_storeA none (k := 16) (vs := [iV 1, .slice A78 ((helloB random (session.take (min nsession 32 - 0)) su (5 + 2 * ([772] : List Int).length) (extB ([772] : List Int))).length) c78]) rfl rfl rfl (by rw [sz36]; exact congrArg some LN) rfl (one_cons rfl (one_cons rfl one_nil)) NG rfl LN ?_)
   refine At.p (some 17) (P_assign rfl rfl) ?_
   refine At.p (some 18) (P_assign rfl rfl) ?_
   refine At.p (some 19) (P_assign rfl rfl) ?_
   refine At.nil ?_
   refine At.next ?_
   refine At.seq ?_
   refine At.seq ?_
   refine At.region ?_
   refine At.s (S_callV (some 83) [] [] (vs := []) rfl en12 rfl V0 (by simp) (c_stands  ) (by rintro _ _ ⟨rfl, rfl⟩; rfl) ?_)
   rintro _ _ ⟨rfl, rfl⟩
   refine At.p (some 84) (P_not rfl rfl) ?_
   refine At.p (some 85) (P_move rfl rfl) ?_
   refine At.gy (t := 85) rfl (by first | rfl | (simp; done) | (simp; omega) | decide) rfl rfl ?_
   refine At.p (some 86) (P_move rfl rfl) ?_
   refine At.gy (t := 85) rfl (by first | rfl | (simp; done) | (simp; omega) | decide) rfl rfl ?_
   refine At.p (some 87) (P_cmp rfl rfl rfl rfl rfl rfl) ?_
   refine At.p (some 88) (P_pick_f rfl rfl (by first | rfl | (simp; done) | (simp; omega) | decide) rfl) ?_
   refine At.p (some 89) (P_move rfl rfl) ?_
   refine At.gy (t := 89) rfl (by first | rfl | (simp; done) | (simp; omega) | decide) rfl rfl ?_
   refine At.p (some 90) (P_move rfl rfl) ?_
   refine At.gy (t := 89) rfl (by first | rfl | (simp; done) | (simp; omega) | decide) rfl rfl ?_
   refine At.p (some 91) (P_cmp rfl rfl rfl rfl rfl rfl) ?_
   refine At.p (some 92) (P_pick_f rfl rfl (by first | rfl | (simp; done) | (simp; omega) | decide) rfl) ?_
   refine At.p (some 93) (P_move rfl rfl) ?_
   refine At.gy (t := 93) rfl (by first | rfl | (simp; done) | (simp; omega) | decide) rfl rfl ?_
   refine At.p (some 94) (P_move rfl rfl) ?_
   refine At.gy (t := 93) rfl (by first | rfl | (simp; done) | (simp; omega) | decide) rfl rfl ?_
   refine At.p (some 95) (P_cmp rfl rfl rfl rfl rfl rfl) ?_
   refine At.p (some 96) (P_pick_f rfl rfl (by first | rfl | (simp; done) | (simp; omega) | decide) rfl) ?_
   refine At.p (some 97) (P_move rfl rfl) ?_
   refine At.gy (t := 97) rfl (by first | rfl | (simp; done) | (simp; omega) | decide) rfl rfl ?_
   refine At.p (some 98) (P_move rfl rfl) ?_
   refine At.gy (t := 97) rfl (by first | rfl | (simp; done) | (simp; omega) | decide) rfl rfl ?_
   refine At.p (some 99) (P_not rfl rfl) ?_
   refine At.p (some 100) (P_pick_f rfl rfl (by first | rfl | (simp; done) | (simp; omega) | decide) rfl) ?_
   refine At.p (some 101) (P_move rfl rfl) ?_
   refine At.gy (t := 101) rfl (by first | rfl | (simp; done) | (simp; omega) | decide) rfl rfl ?_
   refine At.p (some 102) (P_move rfl rfl) ?_
   refine At.gy (t := 101) rfl (by first | rfl | (simp; done) | (simp; omega) | decide) rfl rfl ?_
   refine At.p (some 103) (P_len_sl rfl rfl ⟨_, Try.underlying23⟩ rfl) ?_
   refine At.gy (t := 101) rfl (by first | rfl | (simp; done) | (simp; omega) | decide) rfl rfl ?_
   refine At.p (some 104) (P_cmp rfl rfl rfl rfl rfl rfl) ?_
   refine At.p (some 105) (P_pick_f rfl rfl (by first | rfl | (simp; done) | (simp; omega) | decide) rfl) ?_
   refine At.p (some 106) (P_move rfl rfl) ?_
   refine At.gy (t := 106) rfl (by first | rfl | (simp; done) | (simp; omega) | decide) rfl rfl ?_
   refine At.p (some 107) (P_move rfl rfl) ?_
   refine At.gy (t := 106) rfl (by first | rfl | (simp; done) | (simp; omega) | decide) rfl rfl ?_
   refine At.s (S_callV (some 108) [(73, _), (2073, _)] [] (vs := [_]) rfl en13 rfl (VN (by simp) rfl View.all (VN (by simp) rfl (View.sub (j := ((0 + 3) + (4 + (helloB random (session.take (min nsession 32 - 0)) su (5 + 2 * ([772] : List Int).length) (extB ([772] : List Int))).length))) (m := ([] : List (BitVec 8)).length) (by omega) (viewS (dropS (dropS List.drop_zero (beN_len _ _)) LN))) V0)) (by simp) (k_Done (br := b73) (bl := bb73) (cr := e75) (q := ((0 + 3) + (4 + (helloB random (session.take (min nsession 32 - 0)) su (5 + 2 * ([772] : List Int).length) (extB ([772] : List Int))).length))) (Ar := B75) (l := ([] : List (BitVec 8))) (fun h => g75c (by omega)) LN LN) (by rintro _ _ ⟨rfl, rfl⟩; rfl) ?_)
   rintro _ _ ⟨rfl, rfl⟩
   refine At.gy (t := 106) rfl (by first | rfl | (simp; done) | (simp; omega) | decide) rfl rfl ?_
   refine At.p (some 109) (P_cmp rfl rfl rfl rfl rfl rfl) ?_
   refine At.p (some 110) (P_pick_f rfl rfl (by first | rfl | (simp; done) | (simp; omega) | decide) rfl) ?_
   refine At.p (some 111) (P_move rfl rfl) ?_
   refine At.gy (t := 111) rfl (by first | rfl | (simp; done) | (simp; omega) | decide) rfl rfl ?_
   refine At.p (some 112) (P_fieldAddr0 (off := 0) rfl Try.underlying36 rfl sz3 rfl rfl) ?_
   refine At.gy (t := 111) rfl (by first | rfl | (simp; done) | (simp; omega) | decide) rfl rfl ?_
   refine At.q (some 113) (Q_loadO (k := 16) rfl rfl Try.underlying3 rfl rfl rfl) ?_
   refine At.gy (t := 111) rfl (by first | rfl | (simp; done) | (simp; omega) | decide) rfl rfl ?_
   refine At.p (some 114) (P_cmp rfl rfl rfl rfl rfl rfl) ?_
   refine At.p (some 115) (P_pick_f rfl rfl (by first | rfl | (simp; done) | (simp; omega) | decide) rfl) ?_
   refine At.nil ?_
   refine At.next ?_
   refine At.cond rfl (fun h115 => by revert h115; simp) (fun h115 => ?_)
   have e115 : 1 = 1 := bne_eq_false_iff_eq.1 h115
   refine At.skip ?_
   refine At.next ?_
   refine At.seq ?_
   refine At.region ?_
   refine At.p (some 117) (P_fieldAddr0 (off := 1) rfl Try.underlying36 rfl sz23 rfl rfl) ?_
   refine At.q (some 118) (Q_loadO (k := 16) rfl rfl Try.underlying23 rfl rfl rfl) ?_
   refine At.s (S_callV (some 119) [(78, _)] [119, 1119, 2119] (vs := [_]) rfl en14 rfl (VN (by simp) rfl View.all V0) (by simp) (k_GetY (rnd := random) (sess := (session.take (min nsession 32 - 0))) (su := su) (ns := (session.take (min nsession 32 - 0)).length) (nu := su.length) (vs := ([772] : List Int)) (nn := ([772] : List Int).length) (Ab := A78) (nb := ((helloB random (session.take (min nsession 32 - 0)) su (5 + 2 * ([772] : List Int).length) (extB ([772] : List Int))).length)) (cb := c78) (bb := b78) (qb := 0) hrandom rfl rfl hsum rfl (by simp) LN (fun h => g78a (by omega)) LN LN LN LN (by decide) (by decide)) (by rintro _ _ ⟨Ax, bx, cx, Ay, by_, cy, Az, bz, cz, gxa, gxb, gya, gyb, gza, gzb, rfl, rfl⟩; rfl) ?_)
   rintro _ _ ⟨Ax, bx, cx, Ay, by_, cy, Az, bz, cz, gxa, gxb, gya, gyb, gza, gzb, rfl, rfl⟩
   refine At.p (some 116) (P_move rfl rfl) ?_
   refine At.p (some 120) (P_extract rfl rfl rfl) ?_
   refine At.p (some 121) (P_extract rfl rfl rfl) ?_
   refine At.s (S_alloc (some 20) 20 (zs := [(List.replicate 32 0#8).map u8V, [.slice none 0 0, .slice none 0 0, .slice none 0 0, .slice none 0 0, .slice none 0 0, .slice none 0 0, .slice none 0 0, .slice none 0 0, .slice none 0 0, .slice none 0 0]].flatten) rfl ze29 rfl (fun b20 => ?_))
   refine At.s (S_storeA none (k := 20) (vs := [(random).map u8V, [.slice Ax ((session.take (min nsession 32 - 0)).length) cx, .slice Ay su.length cy, .slice Az (([772] : List Int).length) cz, .slice none 0 0, .slice none 0 0, .slice none 0 0, .slice none 0 0, .slice none 0 0, .slice none 0 0, .slice none 0 0]].flatten) rfl rfl rfl (by rw [sz29]; exact congrArg some LN) rfl (one_flatc (one_map (fun _ => rfl)) (one_flatc (one_cons rfl (one_cons rfl (one_cons rfl (one_cons rfl (one_cons rfl (one_cons rfl (one_cons rfl (one_cons rfl (one_cons rfl (one_cons rfl one_nil)))))))))) one_flat0)) NG rfl LN ?_)
   refine At.p (some 21) (P_assign rfl rfl) ?_
   refine At.nil ?_
   refine At.next ?_
   refine At.seq ?_
   have hHl := helloB_len random (session.take (min nsession 32 - 0)) su (5 + 2 * ([772] : List Int).length) (extB ([772] : List Int))
   have hSl : (session.take (min nsession 32 - 0)).length ≤ 32 := by simp; omega
   have hEl : (extB ([772] : List Int)).length = 7 := by simp
   refine At.region ?_
   refine At.p (some 123) (P_fieldAddr0 (off := 1) rfl Try.underlying36 rfl sz23 rfl rfl) ?_
   refine At.q (some 124) (Q_loadO (k := 16) rfl rfl Try.underlying23 rfl rfl rfl) ?_
   refine At.p (some 125) (P_fieldAddr0 (off := 1) rfl Try.underlying36 rfl sz23 rfl rfl) ?_
   refine At.q (some 126) (Q_loadO (k := 16) rfl rfl Try.underlying23 rfl rfl rfl) ?_
   refine At.p (some 127) (P_len_sl rfl rfl ⟨_, Try.underlying23⟩ rfl) ?_
   refine At.p (some 128) (P_sub_i rfl rfl rfl (by omega)) ?_
   refine At.p (some 129) (P_slice_sl (l := 0) (h := ((helloB random (session.take (min nsession 32 - 0)) su (5 + 2 * ([772] : List Int).length) (extB ([772] : List Int))).length - 1)) (m := c78) rfl Try.underlying23 sz5 rfl rfl ⟨_, _, rfl, by omega⟩ rfl DO DO DO) ?_
   refine At.s (S_callV (some 130) [(78, _)] [] (vs := [_]) rfl en14 rfl (VN (by simp) rfl (View.sub (j := 0) (m := (((helloB random (session.take (min nsession 32 - 0)) su (5 + 2 * ([772] : List Int).length) (extB ([772] : List Int))).length - 1) - 0)) rfl (hello_cut _ _ _ _ _ (by simp) rfl)) V0) (by simp) (k_GetS (rnd := random) (sess := (session.take (min nsession 32 - 0))) (su := su) (ns := (session.take (min nsession 32 - 0)).length) (nu := su.length) (X := (extB ([772] : List Int)).take ((extB ([772] : List Int)).length - 1)) (mm := 5 + 2 * ([772] : List Int).length) (Ab := (cut A78 0 c78 1)) (nb := (((helloB random (session.take (min nsession 32 - 0)) su (5 + 2 * ([772] : List Int).length) (extB ([772] : List Int))).length - 1) - 0)) (cb := (c78 - 0)) (bb := b78) (qb := 0) hrandom rfl rfl hsum LN (fun h => cut_zero ((fun h => g78a (by omega)) (by omega))) LN LN LN LN LN (by decide)) (by rintro _ _ ⟨rfl, rfl⟩; rfl) ?_)
   rintro _ _ ⟨rfl, rfl⟩
   refine At.p (some 122) (P_move rfl rfl) ?_
   refine At.p (some 131) (P_extract rfl rfl rfl) ?_
   refine At.p (some 132) (P_extract rfl rfl rfl) ?_
   refine At.s (S_alloc (some 22) 22 (zs := [(List.replicate 32 0#8).map u8V, [.slice none 0 0, .slice none 0 0, .slice none 0 0, .slice none 0 0, .slice none 0 0, .slice none 0 0, .slice none 0 0, .slice none 0 0, .slice none 0 0, .slice none 0 0]].flatten) rfl ze29 rfl (fun b22 => ?_))
   refine At.s (S_storeA none (k := 22) (vs := [(List.replicate 32 0#8).map u8V, [.slice none 0 0, .slice none 0 0, .slice none 0 0, .slice none 0 0, .slice none 0 0, .slice none 0 0, .slice none 0 0, .slice none 0 0, .slice none 0 0, .slice none 0 0]].flatten) rfl rfl rfl (by rw [sz29]; exact congrArg some LN) rfl (one_flatc (one_map (fun _ => rfl)) (one_flatc (one_cons rfl (one_cons rfl (one_cons rfl (one_cons rfl (one_cons rfl (one_cons rfl (one_cons rfl (one_cons rfl (one_cons rfl (one_cons rfl one_nil)))))))))) one_flat0)) NG rfl LN ?_)
   refine At.p (some 23) (P_assign rfl rfl) ?_
   refine At.nil ?_
   refine At.next ?_
   refine At.seq ?_
   refine At.seq ?_
   refine At.region ?_
   refine At.p (some 133) (P_move rfl rfl) ?_
   refine At.p (some 134) (P_cmp rfl rfl rfl rfl rfl rfl) ?_
   refine At.p (some 135) (P_move rfl rfl) ?_
   refine At.gy (t := 135) rfl (by first | rfl | (simp; done) | (simp; omega) | decide) rfl rfl ?_
   refine At.p (some 136) (P_move rfl rfl) ?_
   refine At.gy (t := 135) rfl (by first | rfl | (simp; done) | (simp; omega) | decide) rfl rfl ?_
   refine At.p (some 137) (P_cmp rfl rfl rfl rfl rfl rfl) ?_
   refine At.p (some 138) (P_pick_f rfl rfl (by first | rfl | (simp; done) | (simp; omega) | decide) rfl) ?_
   refine At.p (some 139) (P_move rfl rfl) ?_
   refine At.gy (t := 139) rfl (by first | rfl | (simp; done) | (simp; omega) | decide) rfl rfl ?_
   refine At.p (some 140) (P_fieldAddr0 (off := 0) rfl Try.underlying29 rfl sz22 rfl rfl) ?_
   refine At.gy (t := 139) rfl (by first | rfl | (simp; done) | (simp; omega) | decide) rfl rfl ?_
   refine At.q (some 141) (Q_loadN (k := 20) (j := 0) (cs := (random).map u8V) rfl rfl Try.underlying22 rfl sz22 rfl rfl rfl (seg_at (i := 0) rfl LN LN) LN) ?_
   refine At.gy (t := 139) rfl (by first | rfl | (simp; done) | (simp; omega) | decide) rfl rfl ?_
   refine At.q (some 142) (Q_loadA (k := 3) rfl rfl Try.underlying22 rfl sz22 LN rfl) ?_
   refine At.gy (t := 139) rfl (by first | rfl | (simp; done) | (simp; omega) | decide) rfl rfl ?_
   refine At.p (some 143) (P_neq_arr (k := .u8) (xs := random) (ys := random) rfl Try.underlying22 Try.underlying5 sz5 Try.eqGuardType22 rfl rfl LN LN) ?_
   refine At.p (some 144) (P_pick_f rfl rfl (by first | rfl | (simp; done) | (simp; omega) | decide) rfl) ?_
   refine At.p (some 145) (P_move rfl rfl) ?_
   refine At.gy (t := 145) rfl (by first | rfl | (simp; done) | (simp; omega) | decide) rfl rfl ?_
   refine At.p (some 146) (P_fieldAddr0 (off := 32) rfl Try.underlying29 rfl sz23 rfl rfl) ?_
   refine At.gy (t := 145) rfl (by first | rfl | (simp; done) | (simp; omega) | decide) rfl rfl ?_
   refine At.q (some 147) (Q_loadO (k := 20) rfl rfl Try.underlying23 rfl rfl (seg_get (i := 1) (p := 0) rfl LN rfl)) ?_
   refine At.gy (t := 145) rfl (by first | rfl | (simp; done) | (simp; omega) | decide) rfl rfl ?_
   refine At.q (some 148) (Q_strA (l := (session.take (min nsession 32 - 0))) (n := ((session.take (min nsession 32 - 0)).length)) (k := 119) LN rfl Try.underlying23 Try.underlying5 Try.underlying9 rfl (fun h => gxa (by omega)) (fun _ => ⟨rfl, rfl, rfl⟩)) ?_
   refine At.gy (t := 145) rfl (by first | rfl | (simp; done) | (simp; omega) | decide) rfl rfl ?_
   refine At.p (some 149) (P_fieldAddr0 (off := 32) rfl Try.underlying29 rfl sz23 rfl rfl) ?_
   refine At.gy (t := 145) rfl (by first | rfl | (simp; done) | (simp; omega) | decide) rfl rfl ?_
   refine At.q (some 150) (Q_loadO (k := 7) rfl rfl Try.underlying23 rfl rfl (seg_get (i := 1) (p := 0) rfl LN rfl)) ?_
   refine At.gy (t := 145) rfl (by first | rfl | (simp; done) | (simp; omega) | decide) rfl rfl ?_
   refine At.q (some 151) (Q_strP (l := session) (n := ((min nsession 32) - 0)) (k := 0) (j := 0) OG rfl Try.underlying23 Try.underlying5 Try.underlying9 rfl (fun h => cut_zero (hAsession (by omega))) (fun _ => ⟨rfl, rfl, (Nat.add_zero _)⟩)) ?_
   refine At.gy (t := 145) rfl (by first | rfl | (simp; done) | (simp; omega) | decide) rfl rfl ?_
   refine At.p (some 152) (P_neq_str (a := (session.take (min nsession 32 - 0))) (b := (session.take ((min nsession 32) - 0))) rfl rfl rfl) ?_
   refine At.p (some 153) (P_pick_f rfl rfl (by first | rfl | (simp; done) | (simp; omega) | decide) rfl) ?_
   refine At.p (some 154) (P_move rfl rfl) ?_
   refine At.gy (t := 154) rfl (by first | rfl | (simp; done) | (simp; omega) | decide) rfl rfl ?_
   refine At.p (some 155) (P_fieldAddr0 (off := 33) rfl Try.underlying29 rfl sz24 rfl rfl) ?_
   refine At.gy (t := 154) rfl (by first | rfl | (simp; done) | (simp; omega) | decide) rfl rfl ?_
   refine At.q (some 156) (Q_loadO (k := 20) rfl rfl Try.underlying24 rfl rfl (seg_get (i := 1) (p := 1) rfl LN rfl)) ?_
   refine At.gy (t := 154) rfl (by first | rfl | (simp; done) | (simp; omega) | decide) rfl rfl ?_
   refine At.p (some 157) (P_len_sl rfl rfl ⟨_, Try.underlying24⟩ rfl) ?_
   refine At.gy (t := 154) rfl (by first | rfl | (simp; done) | (simp; omega) | decide) rfl rfl ?_
   refine At.p (some 158) (P_fieldAddr0 (off := 33) rfl Try.underlying29 rfl sz24 rfl rfl) ?_
   refine At.gy (t := 154) rfl (by first | rfl | (simp; done) | (simp; omega) | decide) rfl rfl ?_
   refine At.q (some 159) (Q_loadO (k := 7) rfl rfl Try.underlying24 rfl rfl (seg_get (i := 1) (p := 1) rfl LN rfl)) ?_
   refine At.gy (t := 154) rfl (by first | rfl | (simp; done) | (simp; omega) | decide) rfl rfl ?_
   refine At.p (some 160) (P_len_sl rfl rfl ⟨_, Try.underlying24⟩ rfl) ?_
   refine At.gy (t := 154) rfl (by first | rfl | (simp; done) | (simp; omega) | decide) rfl rfl ?_
   refine At.p (some 161) (P_cmp rfl rfl rfl rfl rfl rfl) ?_
   refine At.p (some 162) (P_pick_f rfl rfl (by first | rfl | (simp; done) | (simp; omega) | decide) rfl) ?_
   refine At.p (some 163) (P_move rfl rfl) ?_
   refine At.gy (t := 163) rfl (by first | rfl | (simp; done) | (simp; omega) | decide) rfl rfl ?_
   refine At.p (some 164) (P_fieldAddr0 (off := 34) rfl Try.underlying29 rfl sz24 rfl rfl) ?_
   refine At.gy (t := 163) rfl (by first | rfl | (simp; done) | (simp; omega) | decide) rfl rfl ?_
   refine At.q (some 165) (Q_loadO (k := 20) rfl rfl Try.underlying24 rfl rfl (seg_get (i := 1) (p := 2) rfl LN rfl)) ?_
   refine At.gy (t := 163) rfl (by first | rfl | (simp; done) | (simp; omega) | decide) rfl rfl ?_
   refine At.p (some 166) (P_len_sl rfl rfl ⟨_, Try.underlying24⟩ rfl) ?_
   refine At.gy (t := 163) rfl (by first | rfl | (simp; done) | (simp; omega) | decide) rfl rfl ?_
   refine At.p (some 167) (P_cmp rfl rfl rfl rfl rfl rfl) ?_
   refine At.p (some 168) (P_pick_f rfl rfl (by first | rfl | (simp; done) | (simp; omega) | decide) rfl) ?_
   refine At.nil ?_
   refine At.next ?_
   refine At.cond rfl (fun h168 => by revert h168; simp) (fun h168 => ?_)
   have e168 : (([772] : List Int).length : Int) = 1 := bne_eq_false_iff_eq.1 h168
   refine At.skip ?_
   refine At.next ?_
   refine At.seq ?_
   refine At.seq ?_
   refine At.region ?_
   refine At.p (some 24) (P_assign rfl rfl) ?_
   refine At.nil ?_
   refine At.next ?_
   refine At.block ?_
   refine At.loopx (I := fun m fr H => ∃ (k : Nat), m = su.length - k ∧ fr = frOf [(2, .slice As nsu cs), (3, ptr b3 0), (7, ptr b7 0), (9, .slice A61 ((helloB random (session.take ((min nsession 32) - 0)) su (5 + 2 * ([772] : List Int).length) (extB ([772] : List Int))).length) c61), (10, iV 0), (11, .slice A67 ((beN 1 1 ++ beN 3 ((helloB random (session.take ((min nsession 32) - 0)) su (5 + 2 * ([772] : List Int).length) (extB ([772] : List Int))).length) ++ (helloB random (session.take ((min nsession 32) - 0)) su (5 + 2 * ([772] : List Int).length) (extB ([772] : List Int)))).length) c67), (12, iV 0), (13, .slice A71 ((beN 3 (4 + (helloB random (session.take (min nsession 32 - 0)) su (5 + 2 * ([772] : List Int).length) (extB ([772] : List Int))).length) ++ ((beN 1 1 ++ (beN 3 (helloB random (session.take (min nsession 32 - 0)) su (5 + 2 * ([772] : List Int).length) (extB ([772] : List Int))).length ++ ((helloB random (session.take (min nsession 32 - 0)) su (5 + 2 * ([772] : List Int).length) (extB ([772] : List Int))) ++ ([] : List (BitVec 8))))) ++ ([] : List (BitVec 8)))).length) c71), (14, ptr b73 0), (15, .slice A75 ((beN 1 1 ++ (beN 3 ((helloB random (session.take (min nsession 32 - 0)) su (5 + 2 * ([772] : List Int).length) (extB ([772] : List Int))).length) ++ ((helloB random (session.take (min nsession 32 - 0)) su (5 + 2 * ([772] : List Int).length) (extB ([772] : List Int))) ++ ([] : List (BitVec 8))))).length) c75), (16, ptr b16 0), (17, .slice A78r 0 c78r), (18, .bool true), (19, iV 0), (20, ptr b20 0), (21, iV 0), (22, ptr b22 0), (23, iV 2), (24, iV (k : Int)), (54, ptr b7 33), (55, .slice A2 su0.length c2), (56, .slice (some ⟨b56, 0, none⟩) 1 1), (57, .slice A57 su.length c57), (58, ptr b7 33), (59, .tuple #[.slice A61 ((helloB random (session.take ((min nsession 32) - 0)) su (5 + 2 * ([772] : List Int).length) (extB ([772] : List Int))).length) c61, iV 0]), (60, .agg ([(random).map u8V, [.slice (cut Asession 0 csession 1) ((min nsession 32) - 0) (csession - 0), .slice A57 su.length c57, .slice (some ⟨b31, 0, none⟩) 1 1, .slice none 0 0, .slice none 0 0, .slice none 0 0, .slice none 0 0, .slice none 0 0, .slice none 0 0, .slice none 0 0]].flatten).toArray), (61, .tuple #[.slice A61 ((helloB random (session.take ((min nsession 32) - 0)) su (5 + 2 * ([772] : List Int).length) (extB ([772] : List Int))).length) c61, iV 0]), (62, .slice A61 ((helloB random (session.take ((min nsession 32) - 0)) su (5 + 2 * ([772] : List Int).length) (extB ([772] : List Int))).length) c61), (63, iV 0), (64, .tuple #[.slice A67 ((beN 1 1 ++ beN 3 ((helloB random (session.take ((min nsession 32) - 0)) su (5 + 2 * ([772] : List Int).length) (extB ([772] : List Int))).length) ++ (helloB random (session.take ((min nsession 32) - 0)) su (5 + 2 * ([772] : List Int).length) (extB ([772] : List Int)))).length) c67, iV 0]), (65, .slice A61 ((helloB random (session.take ((min nsession 32) - 0)) su (5 + 2 * ([772] : List Int).length) (extB ([772] : List Int))).length) c61), (66, .agg ([iV 1, .slice A61 ((helloB random (session.take ((min nsession 32) - 0)) su (5 + 2 * ([772] : List Int).length) (extB ([772] : List Int))).length) c61]).toArray), (67, .tuple #[.slice A67 ((beN 1 1 ++ beN 3 ((helloB random (session.take ((min nsession 32) - 0)) su (5 + 2 * ([772] : List Int).length) (extB ([772] : List Int))).length) ++ (helloB random (session.take ((min nsession 32) - 0)) su (5 + 2 * ([772] : List Int).length) (extB ([772] : List Int)))).length) c67, iV 0]), (68, .slice A67 ((beN 1 1 ++ beN 3 ((helloB random (session.take ((min nsession 32) - 0)) su (5 + 2 * ([772] : List Int).length) (extB ([772] : List Int))).length) ++ (helloB random (session.take ((min nsession 32) - 0)) su (5 + 2 * ([772] : List Int).length) (extB ([772] : List Int)))).length) c67), (69, iV 0), (70, .slice A67 ((beN 1 1 ++ beN 3 ((helloB random (session.take ((min nsession 32) - 0)) su (5 + 2 * ([772] : List Int).length) (extB ([772] : List Int))).length) ++ (helloB random (session.take ((min nsession 32) - 0)) su (5 + 2 * ([772] : List Int).length) (extB ([772] : List Int)))).length) c67), (71, .slice A71 ((beN 3 (4 + (helloB random (session.take (min nsession 32 - 0)) su (5 + 2 * ([772] : List Int).length) (extB ([772] : List Int))).length) ++ ((beN 1 1 ++ (beN 3 (helloB random (session.take (min nsession 32 - 0)) su (5 + 2 * ([772] : List Int).length) (extB ([772] : List Int))).length ++ ((helloB random (session.take (min nsession 32 - 0)) su (5 + 2 * ([772] : List Int).length) (extB ([772] : List Int))) ++ ([] : List (BitVec 8))))) ++ ([] : List (BitVec 8)))).length) c71), (72, .slice A71 ((beN 3 (4 + (helloB random (session.take (min nsession 32 - 0)) su (5 + 2 * ([772] : List Int).length) (extB ([772] : List Int))).length) ++ ((beN 1 1 ++ (beN 3 (helloB random (session.take (min nsession 32 - 0)) su (5 + 2 * ([772] : List Int).length) (extB ([772] : List Int))).length ++ ((helloB random (session.take (min nsession 32 - 0)) su (5 + 2 * ([772] : List Int).length) (extB ([772] : List Int))) ++ ([] : List (BitVec 8))))) ++ ([] : List (BitVec 8)))).length) c71), (73, ptr b73 0), (74, ptr b73 0), (75, .slice A75 ((beN 1 1 ++ (beN 3 ((helloB random (session.take (min nsession 32 - 0)) su (5 + 2 * ([772] : List Int).length) (extB ([772] : List Int))).length) ++ ((helloB random (session.take (min nsession 32 - 0)) su (5 + 2 * ([772] : List Int).length) (extB ([772] : List Int))) ++ ([] : List (BitVec 8))))).length) c75), (76, .tuple #[.agg ([iV 1, .slice A78 ((helloB random (session.take (min nsession 32 - 0)) su (5 + 2 * ([772] : List Int).length) (extB ([772] : List Int))).length) c78]).toArray, .slice A78r 0 c78r, .bool true, iV 0]), (77, .slice A75 ((beN 1 1 ++ (beN 3 ((helloB random (session.take (min nsession 32 - 0)) su (5 + 2 * ([772] : List Int).length) (extB ([772] : List Int))).length) ++ ((helloB random (session.take (min nsession 32 - 0)) su (5 + 2 * ([772] : List Int).length) (extB ([772] : List Int))) ++ ([] : List (BitVec 8))))).length) c75), (78, .tuple #[.agg ([iV 1, .slice A78 ((helloB random (session.take (min nsession 32 - 0)) su (5 + 2 * ([772] : List Int).length) (extB ([772] : List Int))).length) c78]).toArray, .slice A78r 0 c78r, .bool true, iV 0]), (79, .agg ([iV 1, .slice A78 ((helloB random (session.take (min nsession 32 - 0)) su (5 + 2 * ([772] : List Int).length) (extB ([772] : List Int))).length) c78]).toArray), (80, .slice A78r 0 c78r), (81, .bool true), (82, iV 0), (83, .bool true), (84, .bool (!true)), (85, .bool (!true)), (86, iV 0), (87, .bool (0 != 0)), (88, .bool (0 != 0)), (89, .bool (0 != 0)), (90, iV 0), (91, .bool (0 != 0)), (92, .bool (0 != 0)), (93, .bool (0 != 0)), (94, iV 0), (95, .bool (0 != 0)), (96, .bool (0 != 0)), (97, .bool (0 != 0)), (98, .bool true), (99, .bool (!true)), (100, .bool (!true)), (101, .bool (!true)), (102, .slice A78r 0 c78r), (103, iV 0), (104, .bool (decide (0 > 0))), (105, .bool (decide (0 > 0))), (106, .bool (decide (0 > 0))), (107, ptr b73 0), (108, iV 0), (109, .bool (0 != 0)), (110, .bool (0 != 0)), (111, .bool (0 != 0)), (112, ptr b16 0), (113, iV 1), (114, .bool (1 != 1)), (115, .bool (1 != 1)), (116, .tuple #[.agg ([(random).map u8V, [.slice Ax ((session.take (min nsession 32 - 0)).length) cx, .slice Ay su.length cy, .slice Az (([772] : List Int).length) cz, .slice none 0 0, .slice none 0 0, .slice none 0 0, .slice none 0 0, .slice none 0 0, .slice none 0 0, .slice none 0 0]].flatten).toArray, iV 0]), (117, ptr b16 1), (118, .slice A78 ((helloB random (session.take (min nsession 32 - 0)) su (5 + 2 * ([772] : List Int).length) (extB ([772] : List Int))).length) c78), (119, .tuple #[.agg ([(random).map u8V, [.slice Ax ((session.take (min nsession 32 - 0)).length) cx, .slice Ay su.length cy, .slice Az (([772] : List Int).length) cz, .slice none 0 0, .slice none 0 0, .slice none 0 0, .slice none 0 0, .slice none 0 0, .slice none 0 0, .slice none 0 0]].flatten).toArray, iV 0]), (120, .agg ([(random).map u8V, [.slice Ax ((session.take (min nsession 32 - 0)).length) cx, .slice Ay su.length cy, .slice Az (([772] : List Int).length) cz, .slice none 0 0, .slice none 0 0, .slice none 0 0, .slice none 0 0, .slice none 0 0, .slice none 0 0, .slice none 0 0]].flatten).toArray), (121, iV 0), (122, .tuple #[.agg ([(List.replicate 32 0#8).map u8V, [.slice none 0 0, .slice none 0 0, .slice none 0 0, .slice none 0 0, .slice none 0 0, .slice none 0 0, .slice none 0 0, .slice none 0 0, .slice none 0 0, .slice none 0 0]].flatten).toArray, iV 2]), (123, ptr b16 1), (124, .slice A78 ((helloB random (session.take (min nsession 32 - 0)) su (5 + 2 * ([772] : List Int).length) (extB ([772] : List Int))).length) c78), (125, ptr b16 1), (126, .slice A78 ((helloB random (session.take (min nsession 32 - 0)) su (5 + 2 * ([772] : List Int).length) (extB ([772] : List Int))).length) c78), (127, iV ((helloB random (session.take (min nsession 32 - 0)) su (5 + 2 * ([772] : List Int).length) (extB ([772] : List Int))).length : Int)), (128, iV (((helloB random (session.take (min nsession 32 - 0)) su (5 + 2 * ([772] : List Int).length) (extB ([772] : List Int))).length : Int) - 1)), (129, .slice (cut A78 0 c78 1) (((helloB random (session.take (min nsession 32 - 0)) su (5 + 2 * ([772] : List Int).length) (extB ([772] : List Int))).length - 1) - 0) (c78 - 0)), (130, .tuple #[.agg ([(List.replicate 32 0#8).map u8V, [.slice none 0 0, .slice none 0 0, .slice none 0 0, .slice none 0 0, .slice none 0 0, .slice none 0 0, .slice none 0 0, .slice none 0 0, .slice none 0 0, .slice none 0 0]].flatten).toArray, iV 2]), (131, .agg ([(List.replicate 32 0#8).map u8V, [.slice none 0 0, .slice none 0 0, .slice none 0 0, .slice none 0 0, .slice none 0 0, .slice none 0 0, .slice none 0 0, .slice none 0 0, .slice none 0 0, .slice none 0 0]].flatten).toArray), (132, iV 2), (133, iV 0), (134, .bool (0 != 0)), (135, .bool (0 != 0)), (136, iV 2), (137, .bool (2 == 0)), (138, .bool (2 == 0)), (139, .bool (2 == 0)), (140, ptr b20 0), (141, aggK random), (142, aggK random), (143, .bool (!(random == random))), (144, .bool (!(random == random))), (145, .bool (!(random == random))), (146, ptr b20 32), (147, .slice Ax ((session.take (min nsession 32 - 0)).length) cx), (148, strV (session.take (min nsession 32 - 0))), (149, ptr b7 32), (150, .slice (cut Asession 0 csession 1) ((min nsession 32) - 0) (csession - 0)), (151, strV (session.take ((min nsession 32) - 0))), (152, .bool (!decide ((session.take (min nsession 32 - 0)) = (session.take ((min nsession 32) - 0))))), (153, .bool (!decide ((session.take (min nsession 32 - 0)) = (session.take ((min nsession 32) - 0))))), (154, .bool (!decide ((session.take (min nsession 32 - 0)) = (session.take ((min nsession 32) - 0))))), (155, ptr b20 33), (156, .slice Ay su.length cy), (157, iV (su.length : Int)), (158, ptr b7 33), (159, .slice A57 su.length c57), (160, iV (su.length : Int)), (161, .bool ((su.length : Int) != (su.length : Int))), (162, .bool ((su.length : Int) != (su.length : Int))), (163, .bool ((su.length : Int) != (su.length : Int))), (164, ptr b20 34), (165, .slice Az (([772] : List Int).length) cz), (166, iV (([772] : List Int).length : Int)), (167, .bool ((([772] : List Int).length : Int) != 1)), (168, .bool ((([772] : List Int).length : Int) != 1))] ∧ H = hOf [(0, pRow bsession qsession session), (1, ⟨false, bs, qs, 0, (suites).map iV, 0⟩), (3, ⟨true, b3, 0, 22, (random).map u8V, 0⟩), (7, ⟨true, b7, 0, 29, [(random).map u8V, [.slice (cut Asession 0 csession 1) ((min nsession 32) - 0) (csession - 0), .slice A57 su.length c57, .slice (some ⟨b31, 0, none⟩) 1 1, .slice none 0 0, .slice none 0 0, .slice none 0 0, .slice none 0 0, .slice none 0 0, .slice none 0 0, .slice none 0 0]].flatten, 0⟩), (16, ⟨true, b16, 0, 36, [iV 1, .slice A78 ((helloB random (session.take (min nsession 32 - 0)) su (5 + 2 * ([772] : List Int).length) (extB ([772] : List Int))).length) c78], 0⟩), (20, ⟨true, b20, 0, 29, [(random).map u8V, [.slice Ax ((session.take (min nsession 32 - 0)).length) cx, .slice Ay su.length cy, .slice Az (([772] : List Int).length) cz, .slice none 0 0, .slice none 0 0, .slice none 0 0, .slice none 0 0, .slice none 0 0, .slice none 0 0, .slice none 0 0]].flatten, 0⟩), (22, ⟨true, b22, 0, 29, [(List.replicate 32 0#8).map u8V, [.slice none 0 0, .slice none 0 0, .slice none 0 0, .slice none 0 0, .slice none 0 0, .slice none 0 0, .slice none 0 0, .slice none 0 0, .slice none 0 0, .slice none 0 0]].flatten, 0⟩), (31, ⟨true, b31, 0, 3, ([772]).map iV, 0⟩), (54, ⟨true, b57, 0, 3, (su).map iV, c57 - (su).length⟩), (56, ⟨true, b56, 0, 3, ([4867]).map iV, 0⟩), (61, ⟨true, b61, 0, 5, ((helloB random (session.take ((min nsession 32) - 0)) su (5 + 2 * ([772] : List Int).length) (extB ([772] : List Int)))).map u8V, c61 - ((helloB random (session.take ((min nsession 32) - 0)) su (5 + 2 * ([772] : List Int).length) (extB ([772] : List Int)))).length⟩), (67, ⟨true, b67, 0, 5, ((beN 1 1 ++ beN 3 ((helloB random (session.take ((min nsession 32) - 0)) su (5 + 2 * ([772] : List Int).length) (extB ([772] : List Int))).length) ++ (helloB random (session.take ((min nsession 32) - 0)) su (5 + 2 * ([772] : List Int).length) (extB ([772] : List Int))))).map u8V, c67 - ((beN 1 1 ++ beN 3 ((helloB random (session.take ((min nsession 32) - 0)) su (5 + 2 * ([772] : List Int).length) (extB ([772] : List Int))).length) ++ (helloB random (session.take ((min nsession 32) - 0)) su (5 + 2 * ([772] : List Int).length) (extB ([772] : List Int))))).length⟩), (71, ⟨true, b71, 0, 5, ((beN 3 (4 + (helloB random (session.take (min nsession 32 - 0)) su (5 + 2 * ([772] : List Int).length) (extB ([772] : List Int))).length) ++ ((beN 1 1 ++ (beN 3 (helloB random (session.take (min nsession 32 - 0)) su (5 + 2 * ([772] : List Int).length) (extB ([772] : List Int))).length ++ ((helloB random (session.take (min nsession 32 - 0)) su (5 + 2 * ([772] : List Int).length) (extB ([772] : List Int))) ++ ([] : List (BitVec 8))))) ++ ([] : List (BitVec 8))))).map u8V, c71 - ((beN 3 (4 + (helloB random (session.take (min nsession 32 - 0)) su (5 + 2 * ([772] : List Int).length) (extB ([772] : List Int))).length) ++ ((beN 1 1 ++ (beN 3 (helloB random (session.take (min nsession 32 - 0)) su (5 + 2 * ([772] : List Int).length) (extB ([772] : List Int))).length ++ ((helloB random (session.take (min nsession 32 - 0)) su (5 + 2 * ([772] : List Int).length) (extB ([772] : List Int))) ++ ([] : List (BitVec 8))))) ++ ([] : List (BitVec 8))))).length⟩), (73, ⟨true, b73, 0, 83, [.slice B75 (([] : List (BitVec 8)).length) e75, iV 0], 0⟩), (75, ⟨true, b75, 0, 5, ((beN 1 1 ++ (beN 3 ((helloB random (session.take (min nsession 32 - 0)) su (5 + 2 * ([772] : List Int).length) (extB ([772] : List Int))).length) ++ ((helloB random (session.take (min nsession 32 - 0)) su (5 + 2 * ([772] : List Int).length) (extB ([772] : List Int))) ++ ([] : List (BitVec 8)))))).map u8V, c75 - ((beN 1 1 ++ (beN 3 ((helloB random (session.take (min nsession 32 - 0)) su (5 + 2 * ([772] : List Int).length) (extB ([772] : List Int))).length) ++ ((helloB random (session.take (min nsession 32 - 0)) su (5 + 2 * ([772] : List Int).length) (extB ([772] : List Int))) ++ ([] : List (BitVec 8)))))).length⟩), (78, ⟨true, b78, 0, 5, ((helloB random (session.take (min nsession 32 - 0)) su (5 + 2 * ([772] : List Int).length) (extB ([772] : List Int)))).map u8V, c78 - ((helloB random (session.take (min nsession 32 - 0)) su (5 + 2 * ([772] : List Int).length) (extB ([772] : List Int)))).length⟩), (119, ⟨true, bx, 0, 5, ((session.take (min nsession 32 - 0))).map u8V, cx - ((session.take (min nsession 32 - 0))).length⟩), (1078, ⟨true, b78r, 0, 5, [], c78r⟩), (1119, ⟨true, by_, 0, 3, (su).map iV, cy - su.length⟩), (2073, ⟨true, bb73, 0, 5, ((beN 3 (4 + (helloB random (session.take (min nsession 32 - 0)) su (5 + 2 * ([772] : List Int).length) (extB ([772] : List Int))).length) ++ ((beN 1 1 ++ (beN 3 ((helloB random (session.take (min nsession 32 - 0)) su (5 + 2 * ([772] : List Int).length) (extB ([772] : List Int))).length) ++ ((helloB random (session.take (min nsession 32 - 0)) su (5 + 2 * ([772] : List Int).length) (extB ([772] : List Int))) ++ ([] : List (BitVec 8))))) ++ ([] : List (BitVec 8))))).map u8V, c73 - ((beN 3 (4 + (helloB random (session.take (min nsession 32 - 0)) su (5 + 2 * ([772] : List Int).length) (extB ([772] : List Int))).length) ++ ((beN 1 1 ++ (beN 3 ((helloB random (session.take (min nsession 32 - 0)) su (5 + 2 * ([772] : List Int).length) (extB ([772] : List Int))).length) ++ ((helloB random (session.take (min nsession 32 - 0)) su (5 + 2 * ([772] : List Int).length) (extB ([772] : List Int))) ++ ([] : List (BitVec 8))))) ++ ([] : List (BitVec 8))))).length⟩), (2119, ⟨true, bz, 0, 3, (([772] : List Int)).map iV, cz - ([772] : List Int).length⟩)] ∧ (k ≤ su.length)) ?_ ?_
   ·
    intro Kc1 hKc1
    refine At.to [(2, _), (3, _), (7, _), (9, _), (10, _), (11, _), (12, _), (13, _), (14, _), (15, _), (16, _), (17, _), (18, _), (19, _), (20, _), (21, _), (22, _), (23, _), (24, _), (54, _), (55, _), (56, _), (57, _), (58, _), (59, _), (60, _), (61, _), (62, _), (63, _), (64, _), (65, _), (66, _), (67, _), (68, _), (69, _), (70, _), (71, _), (72, _), (73, _), (74, _), (75, _), (76, _), (77, _), (78, _), (79, _), (80, _), (81, _), (82, _), (83, _), (84, _), (85, _), (86, _), (87, _), (88, _), (89, _), (90, _), (91, _), (92, _), (93, _), (94, _), (95, _), (96, _), (97, _), (98, _), (99, _), (100, _), (101, _), (102, _), (103, _), (104, _), (105, _), (106, _), (107, _), (108, _), (109, _), (110, _), (111, _), (112, _), (113, _), (114, _), (115, _), (116, _), (117, _), (118, _), (119, _), (120, _), (121, _), (122, _), (123, _), (124, _), (125, _), (126, _), (127, _), (128, _), (129, _), (130, _), (131, _), (132, _), (133, _), (134, _), (135, _), (136, _), (137, _), (138, _), (139, _), (140, _), (141, _), (142, _), (143, _), (144, _), (145, _), (146, _), (147, _), (148, _), (149, _), (150, _), (151, _), (152, _), (153, _), (154, _), (155, _), (156, _), (157, _), (158, _), (159, _), (160, _), (161, _), (162, _), (163, _), (164, _), (165, _), (166, _), (167, _), (168, _)] [(0, _), (1, _), (3, _), (7, _), (16, _), (20, _), (22, _), (31, _), (54, _), (56, _), (61, _), (67, _), (71, _), (73, _), (75, _), (78, _), (119, _), (1078, _), (1119, _), (2073, _), (2119, _)] (AllL.cons_ (rfl) (AllL.cons_ (rfl) (AllL.cons_ (rfl) (AllL.cons_ (rfl) (AllL.cons_ (rfl) (AllL.cons_ (rfl) (AllL.cons_ (rfl) (AllL.cons_ (rfl) (AllL.cons_ (rfl) (AllL.cons_ (rfl) (AllL.cons_ (rfl) (AllL.cons_ (rfl) (AllL.cons_ (rfl) (AllL.cons_ (rfl) (AllL.cons_ (rfl) (AllL.cons_ (rfl) (AllL.cons_ (rfl) (AllL.cons_ (rfl) (AllL.cons_ (rfl) (AllL.cons_ (rfl) (AllL.cons_ (rfl) (AllL.cons_ (rfl) (AllL.cons_ (rfl) (AllL.cons_ (rfl) (AllL.cons_ (rfl) (AllL.cons_ (rfl) (AllL.cons_ (rfl) (AllL.cons_ (rfl) (AllL.cons_ (rfl) (AllL.cons_ (rfl) (AllL.cons_ (rfl) (AllL.cons_ (rfl) (AllL.cons_ (rfl) (AllL.cons_ (rfl) (AllL.cons_ (rfl) (AllL.cons_ (rfl) (AllL.cons_ (rfl) (AllL.cons_ (rfl) (AllL.cons_ (rfl) (AllL.cons_ (rfl) (AllL.cons_ (rfl) (AllL.cons_ (rfl) (AllL.cons_ (rfl) (AllL.cons_ (rfl) (AllL.cons_ (rfl) (AllL.cons_ (rfl) (AllL.cons_ (rfl) (AllL.cons_ (rfl) (AllL.cons_ (rfl) (AllL.cons_ (rfl) (AllL.cons_ (rfl) (AllL.cons_ (rfl) (AllL.cons_ (rfl) (AllL.cons_ (rfl) (AllL.cons_ (rfl) (AllL.cons_ (rfl) (AllL.cons_ (rfl) (AllL.cons_ (rfl) (AllL.cons_ (rfl) (AllL.cons_ (rfl) (AllL.cons_ (rfl) (AllL.cons_ (rfl) (AllL.cons_ (rfl) (AllL.cons_ (rfl) (AllL.cons_ (rfl) (AllL.cons_ (rfl) (AllL.cons_ (rfl) (AllL.cons_ (rfl) (AllL.cons_ (rfl) (AllL.cons_ (rfl) (AllL.cons_ (rfl) (AllL.cons_ (rfl) (AllL.cons_ (rfl) (AllL.cons_ (rfl) (AllL.cons_ (rfl) (AllL.cons_ (rfl) (AllL.cons_ (rfl) (AllL.cons_ (rfl) (AllL.cons_ (rfl) (AllL.cons_ (rfl) (AllL.cons_ (rfl) (AllL.cons_ (rfl) (AllL.cons_ (rfl) (AllL.cons_ (rfl) (AllL.cons_ (rfl) (AllL.cons_ (rfl) (AllL.cons_ (rfl) (AllL.cons_ (rfl) (AllL.cons_ (rfl) (AllL.cons_ (rfl) (AllL.cons_ (rfl) (AllL.cons_ (rfl) (AllL.cons_ (rfl) (AllL.cons_ (rfl) (AllL.cons_ (rfl) (AllL.cons_ (rfl) (AllL.cons_ (rfl) (AllL.cons_ (rfl) (AllL.cons_ (rfl) (AllL.cons_ (rfl) (AllL.cons_ (rfl) (AllL.cons_ (rfl) (AllL.cons_ (rfl) (AllL.cons_ (rfl) (AllL.cons_ (rfl) (AllL.cons_ (rfl) (AllL.cons_ (rfl) (AllL.cons_ (rfl) (AllL.cons_ (rfl) (AllL.cons_ (rfl) (AllL.cons_ (rfl) (AllL.cons_ (rfl) (AllL.cons_ (rfl) (AllL.cons_ (rfl) (AllL.cons_ (rfl) (AllL.cons_ (rfl) (AllL.cons_ (rfl) (AllL.cons_ (rfl) (AllL.cons_ (rfl) (AllL.cons_ (rfl) (AllL.cons_ (rfl) (AllL.cons_ (rfl) (AllL.cons_ (rfl) (AllL.cons_ (rfl) (AllL.cons_ (rfl) (AllL.cons_ (rfl) (AllL.cons_ (rfl) (AllL.cons_ (rfl) (AllL.cons_ (rfl) (AllL.cons_ (rfl) (AllL.cons_ (rfl) (AllL.cons_ (rfl) (AllL.cons_ (rfl) (AllL.cons_ (rfl) trivial)))))))))))))))))))))))))))))))))))))))))))))))))))))))))))))))))))))))))))))))))))))))))))))))))))))))))))))))))))))))))))))))))))))) (AllL.cons_ (rfl) (AllL.cons_ (rfl) (AllL.cons_ (rfl) (AllL.cons_ (rfl) (AllL.cons_ (rfl) (AllL.cons_ (rfl) (AllL.cons_ (rfl) (AllL.cons_ (rfl) (AllL.cons_ (rfl) (AllL.cons_ (rfl) (AllL.cons_ (rfl) (AllL.cons_ (rfl) (AllL.cons_ (rfl) (AllL.cons_ (rfl) (AllL.cons_ (rfl) (AllL.cons_ (rfl) (AllL.cons_ (rfl) (AllL.cons_ (rfl) (AllL.cons_ (rfl) (AllL.cons_ (rfl) (AllL.cons_ (rfl) trivial))))))))))))))))))))) ?_
    exact hKc1 _ _ _ ⟨0, rfl, rfl, rfl, (Nat.zero_le _)⟩
   ·
    rintro m fr H ⟨k, rfl, rfl, rfl, hk⟩ Kc1 hKc1
    refine At.seq ?_
    refine At.seq ?_
    refine At.region ?_
    refine At.p (some 169) (P_move rfl rfl) ?_
    refine At.p (some 170) (P_fieldAddr0 (off := 33) rfl Try.underlying29 rfl sz24 rfl rfl) ?_
    refine At.q (some 171) (Q_loadO (k := 20) rfl rfl Try.underlying24 rfl rfl (seg_get (i := 1) (p := 1) rfl LN rfl)) ?_
    refine At.p (some 172) (P_len_sl rfl rfl ⟨_, Try.underlying24⟩ rfl) ?_
    refine At.p (some 173) (P_cmp rfl rfl rfl rfl rfl rfl) ?_
    refine At.nil ?_
    refine At.next ?_
    refine At.cond rfl (fun h173 => ?_) (fun h173 => ?_)
    · -- cond 173 t
     have e173 : (k : Int) < (su.length : Int) := of_decide_eq_true h173
     refine At.skip ?_
     refine At.next ?_
     refine At.seq ?_
     refine At.block ?_
     refine At.seq ?_
     refine At.draws 10 [] [.q false [0, 1, 2, 3, 4, 5, 6, 7, 8, 9]] (by kernel_rfl) (by kernel_rfl) ?_
     refine At.wp (some 176) (P_fieldAddr0 (off := 33) rfl Try.underlying29 rfl sz24 rfl rfl) ?_
     refine At.wq (some 177) (Q_loadO (k := 20) rfl rfl Try.underlying24 rfl rfl (seg_get (i := 1) (p := 1) rfl LN rfl)) ?_
     refine At.wp (some 178) (P_move rfl rfl) ?_
     refine At.wp (some 179) (P_indexAddr_slz (b := by_) (j := k) rfl Try.underlying24 sz3 rfl ((fun h => gya (by omega)) OG) rfl RO OG) ?_
     refine At.wq (some 180) (Q_loadM (k := 1119) (f := iV) (l := su) ((0 : Int)) rfl rfl Try.underlying3 rfl rfl OG) ?_
     refine At.wp (some 181) (P_fieldAddr0 (off := 33) rfl Try.underlying29 rfl sz24 rfl rfl) ?_
     refine At.wq (some 182) (Q_loadO (k := 7) rfl rfl Try.underlying24 rfl rfl (seg_get (i := 1) (p := 1) rfl LN rfl)) ?_
     refine At.wp (some 183) (P_move rfl rfl) ?_
     refine At.wp (some 184) (P_indexAddr_slz (b := b57) (j := k) rfl Try.underlying24 sz3 rfl ((fun h => g57a (by omega)) OG) rfl RO OG) ?_
     refine At.wq (some 185) (Q_loadM (k := 54) (f := iV) (l := su) ((0 : Int)) rfl rfl Try.underlying3 rfl rfl OG) ?_
     refine At.wqn ?_
     refine At.wt rfl ?_
     refine At.p (some 186) (P_cmp rfl rfl rfl rfl rfl rfl) ?_
     refine At.nil ?_
     refine At.next ?_
     refine At.cond rfl (fun h186 => by simp at h186) (fun h186 => ?_)
     have e186 : (su.getD k 0) = (su.getD k 0) := bne_eq_false_iff_eq.1 h186
     refine At.skip ?_
     refine At.inb_n ?_
     refine At.next ?_
     refine At.region ?_
     refine At.p (some 174) (P_move rfl rfl) ?_
     refine At.p (some 175) (P_add_i rfl rfl rfl (by omega)) ?_
     refine At.p (some 24) (P_assign rfl rfl) ?_
     refine At.nil ?_
     refine At.next ?_
     refine At.to [(2, _), (3, _), (7, _), (9, _), (10, _), (11, _), (12, _), (13, _), (14, _), (15, _), (16, _), (17, _), (18, _), (19, _), (20, _), (21, _), (22, _), (23, _), (24, iV ((k + 1 : Nat) : Int)), (54, _), (55, _), (56, _), (57, _), (58, _), (59, _), (60, _), (61, _), (62, _), (63, _), (64, _), (65, _), (66, _), (67, _), (68, _), (69, _), (70, _), (71, _), (72, _), (73, _), (74, _), (75, _), (76, _), (77, _), (78, _), (79, _), (80, _), (81, _), (82, _), (83, _), (84, _), (85, _), (86, _), (87, _), (88, _), (89, _), (90, _), (91, _), (92, _), (93, _), (94, _), (95, _), (96, _), (97, _), (98, _), (99, _), (100, _), (101, _), (102, _), (103, _), (104, _), (105, _), (106, _), (107, _), (108, _), (109, _), (110, _), (111, _), (112, _), (113, _), (114, _), (115, _), (116, _), (117, _), (118, _), (119, _), (120, _), (121, _), (122, _), (123, _), (124, _), (125, _), (126, _), (127, _), (128, _), (129, _), (130, _), (131, _), (132, _), (133, _), (134, _), (135, _), (136, _), (137, _), (138, _), (139, _), (140, _), (141, _), (142, _), (143, _), (144, _), (145, _), (146, _), (147, _), (148, _), (149, _), (150, _), (151, _), (152, _), (153, _), (154, _), (155, _), (156, _), (157, _), (158, _), (159, _), (160, _), (161, _), (162, _), (163, _), (164, _), (165, _), (166, _), (167, _), (168, _)] [(0, _), (1, _), (3, _), (7, _), (16, _), (20, _), (22, _), (31, _), (54, _), (56, _), (61, _), (67, _), (71, _), (73, _), (75, _), (78, _), (119, _), (1078, _), (1119, _), (2073, _), (2119, _)] (AllL.cons_ (rfl) (AllL.cons_ (rfl) (AllL.cons_ (rfl) (AllL.cons_ (rfl) (AllL.cons_ (rfl) (AllL.cons_ (rfl) (AllL.cons_ (rfl) (AllL.cons_ (rfl) (AllL.cons_ (rfl) (AllL.cons_ (rfl) (AllL.cons_ (rfl) (AllL.cons_ (rfl) (AllL.cons_ (rfl) (AllL.cons_ (rfl) (AllL.cons_ (rfl) (AllL.cons_ (rfl) (AllL.cons_ (rfl) (AllL.cons_ (rfl) (AllL.cons_ (rfl) (AllL.cons_ (rfl) (AllL.cons_ (rfl) (AllL.cons_ (rfl) (AllL.cons_ (rfl) (AllL.cons_ (rfl) (AllL.cons_ (rfl) (AllL.cons_ (rfl) (AllL.cons_ (rfl) (AllL.cons_ (rfl) (AllL.cons_ (rfl) (AllL.cons_ (rfl) (AllL.cons_ (rfl) (AllL.cons_ (rfl) (AllL.cons_ (rfl) (AllL.cons_ (rfl) (AllL.cons_ (rfl) (AllL.cons_ (rfl) (AllL.cons_ (rfl) (AllL.cons_ (rfl) (AllL.cons_ (rfl) (AllL.cons_ (rfl) (AllL.cons_ (rfl) (AllL.cons_ (rfl) (AllL.cons_ (rfl) (AllL.cons_ (rfl) (AllL.cons_ (rfl) (AllL.cons_ (rfl) (AllL.cons_ (rfl) (AllL.cons_ (rfl) (AllL.cons_ (rfl) (AllL.cons_ (rfl) (AllL.cons_ (rfl) (AllL.cons_ (rfl) (AllL.cons_ (rfl) (AllL.cons_ (rfl) (AllL.cons_ (rfl) (AllL.cons_ (rfl) (AllL.cons_ (rfl) (AllL.cons_ (rfl) (AllL.cons_ (rfl) (AllL.cons_ (rfl) (AllL.cons_ (rfl) (AllL.cons_ (rfl) (AllL.cons_ (rfl) (AllL.cons_ (rfl) (AllL.cons_ (rfl) (AllL.cons_ (rfl) (AllL.cons_ (rfl) (AllL.cons_ (rfl) (AllL.cons_ (rfl) (AllL.cons_ (rfl) (AllL.cons_ (rfl) (AllL.cons_ (rfl) (AllL.cons_ (rfl) (AllL.cons_ (rfl) (AllL.cons_ (rfl) (AllL.cons_ (rfl) (AllL.cons_ (rfl) (AllL.cons_ (rfl) (AllL.cons_ (rfl) (AllL.cons_ (rfl) (AllL.cons_ (rfl) (AllL.cons_ (rfl) (AllL.cons_ (rfl) (AllL.cons_ (rfl) (AllL.cons_ (rfl) (AllL.cons_ (rfl) (AllL.cons_ (rfl) (AllL.cons_ (rfl) (AllL.cons_ (rfl) (AllL.cons_ (rfl) (AllL.cons_ (rfl) (AllL.cons_ (rfl) (AllL.cons_ (rfl) (AllL.cons_ (rfl) (AllL.cons_ (rfl) (AllL.cons_ (rfl) (AllL.cons_ (rfl) (AllL.cons_ (rfl) (AllL.cons_ (rfl) (AllL.cons_ (rfl) (AllL.cons_ (rfl) (AllL.cons_ (rfl) (AllL.cons_ (rfl) (AllL.cons_ (rfl) (AllL.cons_ (rfl) (AllL.cons_ (rfl) (AllL.cons_ (rfl) (AllL.cons_ (rfl) (AllL.cons_ (rfl) (AllL.cons_ (rfl) (AllL.cons_ (rfl) (AllL.cons_ (rfl) (AllL.cons_ (rfl) (AllL.cons_ (rfl) (AllL.cons_ (rfl) (AllL.cons_ (rfl) (AllL.cons_ (rfl) (AllL.cons_ (rfl) (AllL.cons_ (rfl) (AllL.cons_ (rfl) (AllL.cons_ (rfl) (AllL.cons_ (rfl) (AllL.cons_ (rfl) (AllL.cons_ (rfl) (AllL.cons_ (rfl) (AllL.cons_ (rfl) (AllL.cons_ (rfl) (AllL.cons_ (rfl) (AllL.cons_ (rfl) (AllL.cons_ (rfl) (AllL.cons_ (rfl) (AllL.cons_ (rfl) (AllL.cons_ (rfl) (AllL.cons_ (rfl) trivial)))))))))))))))))))))))))))))))))))))))))))))))))))))))))))))))))))))))))))))))))))))))))))))))))))))))))))))))))))))))))))))))))))))) (AllL.cons_ (rfl) (AllL.cons_ (rfl) (AllL.cons_ (rfl) (AllL.cons_ (rfl) (AllL.cons_ (rfl) (AllL.cons_ (rfl) (AllL.cons_ (rfl) (AllL.cons_ (rfl) (AllL.cons_ (rfl) (AllL.cons_ (rfl) (AllL.cons_ (rfl) (AllL.cons_ (rfl) (AllL.cons_ (rfl) (AllL.cons_ (rfl) (AllL.cons_ (rfl) (AllL.cons_ (rfl) (AllL.cons_ (rfl) (AllL.cons_ (rfl) (AllL.cons_ (rfl) (AllL.cons_ (rfl) (AllL.cons_ (rfl) trivial))))))))))))))))))))) ?_
     exact hKc1 _ _ _ (by omega) ⟨k + 1, rfl, rfl, rfl, (by omega)⟩
    · -- cond 173 f
     have e173 : ¬ (k : Int) < (su.length : Int) := of_decide_eq_false h173
     refine At.exit ?_
     refine At.thn_e ?_
     refine At.thn_e ?_
     refine At.inb_hit ?_
     refine At.next ?_
     refine At.seq ?_
     refine At.region ?_
     refine At.p (some 6) (P_assign rfl rfl) ?_
     refine At.nil ?_
     refine At.next ?_
     refine At.ret ?_
     have hq0 : true = true := rfl
     refine At.give (.inl rfl) [] (rows' := []) (vs := [_]) rfl ⟨rfl, trivial⟩ rfl (by simp) (by simp) ⟨(by first | (rw [hq0]; try rfl; done) | (rw [← hq0]; try rfl; done) | (simp only [hq0]; try rfl; done) | (simp only [← hq0]; try rfl; done) | rfl), (by first | (rw [hq0]; try rfl; done) | (rw [← hq0]; try rfl; done) | (simp only [hq0]; try rfl; done) | (simp only [← hq0]; try rfl; done) | rfl)⟩


end Go.Proofs.Ytcjfkmhijfcciaa

