import Derived.Test.YtdingfinclcbgaaJL5
namespace Go.Proofs.Ytdingfinclcbgaa
set_option maxRecDepth 20000
set_option linter.unusedVariables false
set_option linter.unusedSimpArgs false
open Go.SE Go.RowKit
def dskF (n : Nat) : List (BitVec 8) := splice (splice (List.replicate (n * 64) 0#8) (0 * 64) (List.replicate 64 0#8)) (1 * 64) (slotB 1#64 0)
theorem dskF_inv {n : Nat} (h4 : 4 ≤ n) : JInv (dskF n) n 0 1#64 (([] : List BG).map BG.l) := JInv.fresh h4 rfl
theorem c_NewN {n : Nat} (h1 : 1 ≤ n) (h2 : n ≤ 512) : Con Try.prog 9 [iV (n : Int)] [] (fun v rs => ∃ b bs, v = .tuple #[ptr b 0, iV 0] ∧ rs = [dH true b bs n n 0, rowS true bs (List.replicate (n * 64) 0#8) 0]) := c_New n h1 h2
theorem c_FormatN {bD bS n : Nat} (h4 : 4 ≤ n) (hn : n ≤ 512) : Con Try.prog 28 [ptr bD 0] [dH true bD bS n n 0, rowS true bS (List.replicate (n * 64) 0#8) 0] (fun v rs => ∃ b', v = .tuple #[ptr b' 0, iV 0] ∧ rs = [dH true bD bS n n (0 + 1 + 1), rowS true bS (dskF n) 0, jRow b' bD 1#64 0 none 0 0 0 false]) :=
 c_Format (nD := n) (by rw [List.length_replicate]) hn (Nat.le_refl _) (by decide) (by decide) h4 rfl
theorem Con.famVO {P : Program} {f : FuncId} {args : List Value} {o : List Row} {views : List (Nat × Row)} {b : Nat} {es : List BG} {post : Value → List Row → Prop} (h : Con P f args (o ++ views.map (·.2) ++ es.map BG.vrow) post) : Con P f args (o ++ (views ++ SE.famV b es).map (·.2)) post := by
 rw [List.map_append, famV_rows, ← List.append_assoc]
 exact h
theorem Con.famV2 {P : Program} {f : FuncId} {args : List Value} {views : List (Nat × Row)} {b b2 : Nat} {es es2 : List BG} {post : Value → List Row → Prop} (h : Con P f args (views.map (·.2) ++ es.map BG.vrow ++ es2.map BG.vrow) post) : Con P f args ((views ++ SE.famV b es ++ SE.famV b2 es2).map (·.2)) post := by
 rw [List.map_append, List.map_append, famV_rows, famV_rows]
 exact h
theorem len3 {es ls : List BG} (hm : es.map BG.l = ls.map BG.l) (h : ∀ e ∈ ls, e.l.length = 3) : ∀ e ∈ es, 1 ≤ e.l.length ∧ e.l.length ≤ 14 := fun e he => by
 have : e.l ∈ ls.map BG.l := by rw [← hm]; exact List.mem_map_of_mem he
 obtain ⟨x, hx, hxe⟩ := List.mem_map.1 this
 have := h x hx
 rw [hxe] at this
 omega
theorem len3' {ls : List BG} (h : ∀ e ∈ ls, e.l.length = 3) : ∀ e ∈ ls, 1 ≤ e.l.length ∧ e.l.length ≤ 14 := fun e he => by
 have := h e he
 omega
theorem push3 {ls : List BG} {x : BG} (h : ∀ e ∈ ls, e.l.length = 3) (hx : x.l.length = 3) : ∀ e ∈ ls ++ [x], e.l.length = 3 := fun e he => by
 rcases List.mem_append.1 he with h1 | h1
 · exact h e h1
 ·
  rw [List.mem_singleton.1 h1]
  exact hx
theorem JInv.pushG {S : List (BitVec 8)} {n ar : Nat} {gen : BitVec 64} {es : List BG} {e : List (BitVec 8)} {A : Option Addr} {b c : Nat} (h : JInv S n ar gen (es.map BG.l)) (h4 : 4 ≤ n) (har : ar ≤ 1) (hu : es.length < (n - 2) / 2) (he : e.length = 3) :
  JInv (splice S ((fstS n ar + es.length) * 64) (secB gen es.length e)) n ar gen ((es ++ [bG A b c e]).map BG.l) := by
 have := h.push (e := e) h4 har (by rw [List.length_map]; exact hu) (by omega) (by omega)
 rw [List.length_map] at this
 rw [List.map_append]
 exact this

attribute [local irreducible] sumS
set_option maxHeartbeats 8000000 in
theorem l_Long {size : Int} {cnt : Int}  :
  Con Try.prog 6 [iV size, iV cnt] [] (fun v rs => v = .bool true ∧ rs = []) := by
 refine Con.enter Try.func6 Try.ntmps6 (Nat.le_of_ble_eq_true rfl) rfl fun w => ?_
 refine At.seq ?_
 refine At.region ?_
 refine At.p (some 4) (P_assign rfl rfl) ?_
 refine At.nil ?_
 refine At.next ?_
 refine At.seq ?_
 refine At.region ?_
 refine At.p (some 16) (P_move rfl rfl) ?_
 refine At.p (some 17) (P_conv_iw UK.u64 rfl Try.underlying3 Try.underlying22 rfl) ?_
 refine At.p (some 18) (P_rem_w UK.u64 (b := 60#64) rfl rfl rfl (by decide)) ?_
 obtain ⟨k19, hk19, hek19, hdk19⟩ := umod_c ((BitVec.ofInt 64 size)) 60#64 (by decide) (by decide)
 have hk19 : k19 < 60 := hk19
 refine At.p (some 19) (P_conv_WiE hek19 rfl Try.underlying22 Try.underlying3 rfl) ?_
 obtain ⟨n, hn⟩ : ∃ n : Nat, n = 10 + k19 := ⟨_, rfl⟩
 refine At.p (some 20) (P_add_i rfl rfl rfl (by omega)) ?_
 have q20 : ((10 + (k19 : Int)) : Int) = (n : Int) := (by omega)
 simp only [q20]
 refine At.s (S_callV (some 21) [] [100, 101] (vs := [_]) rfl en9 rfl V0 (by simp) (c_NewN (n := n) (by omega) (by omega)) (by rintro _ _ ⟨bD, bS, rfl, rfl⟩; rfl) ?_)
 rintro _ _ ⟨bD, bS, rfl, rfl⟩
 refine At.p (some 15) (P_move rfl rfl) ?_
 refine At.p (some 22) (P_extract rfl rfl rfl) ?_
 refine At.p (some 23) (P_extract rfl rfl rfl) ?_
 refine At.p (some 5) (P_assign rfl rfl) ?_
 refine At.p (some 6) (P_assign rfl rfl) ?_
 refine At.nil ?_
 refine At.next ?_
 refine At.seq ?_
 refine At.region ?_
 refine At.p (some 25) (P_move rfl rfl) ?_
 refine At.s (S_callR (some 26) [(100, _), (101, _)] [] [100, 101, 102] (vs := [_]) rfl en28 rfl (ON rfl rfl (ON rfl rfl O0)) (by simp) V0 (by simp) (c_FormatN (n := n) (bD := bD) (bS := bS) (by omega) (by omega)) (by rintro _ _ ⟨bJ, rfl, rfl⟩; rfl) ?_)
 rintro _ _ ⟨bJ, rfl, rfl⟩
 refine At.p (some 24) (P_move rfl rfl) ?_
 refine At.p (some 27) (P_extract rfl rfl rfl) ?_
 refine At.p (some 28) (P_extract rfl rfl rfl) ?_
 refine At.p (some 7) (P_assign rfl rfl) ?_
 refine At.p (some 8) (P_assign rfl rfl) ?_
 refine At.nil ?_
 refine At.next ?_
 refine At.seq ?_
 refine At.seq ?_
 refine At.region ?_
 refine At.s (S_callV (some 29) [] [] (vs := []) rfl en25 rfl V0 (by simp) (c_stays  ) (by rintro _ _ ⟨rfl, rfl⟩; rfl) ?_)
 rintro _ _ ⟨rfl, rfl⟩
 refine At.p (some 30) (P_not rfl rfl) ?_
 refine At.p (some 31) (P_move rfl rfl) ?_
 refine At.gy (t := 31) rfl rfl rfl rfl ?_
 refine At.p (some 32) (P_move rfl rfl) ?_
 refine At.gy (t := 31) rfl rfl rfl rfl ?_
 refine At.p (some 33) (P_cmp rfl rfl rfl rfl rfl rfl) ?_
 refine At.p (some 34) (P_pick_f rfl rfl rfl rfl) ?_
 refine At.p (some 35) (P_move rfl rfl) ?_
 refine At.gy (t := 35) rfl rfl rfl rfl ?_
 refine At.p (some 36) (P_move rfl rfl) ?_
 refine At.gy (t := 35) rfl rfl rfl rfl ?_
 refine At.p (some 37) (P_cmp rfl rfl rfl rfl rfl rfl) ?_
 refine At.p (some 38) (P_pick_f rfl rfl rfl rfl) ?_
 refine At.nil ?_
 refine At.next ?_
 refine At.cond rfl (fun h38 => by simp at h38) (fun h38 => ?_)
 have e38 : 0 = 0 := bne_eq_false_iff_eq.1 h38
 refine At.skip ?_
 refine At.next ?_
 refine At.seq ?_
 refine At.region ?_
 refine At.p (some 9) (P_assign rfl rfl) ?_
 refine At.empty 103 0 27 ?_
 refine At.empty 104 0 27 ?_
 refine At.toM [(0, iV size), (1, iV cnt), (4, .bool false), (5, ptr bD 0), (6, iV 0), (7, ptr bJ 0), (8, iV 0), (9, .slice none 0 0), (15, .tuple #[ptr bD 0, iV 0]), (16, iV size), (17, u64V (BitVec.ofInt 64 size)), (18, u64V ((BitVec.ofInt 64 size) % 60#64)), (19, iV (k19 : Int)), (20, iV (n : Int)), (21, .tuple #[ptr bD 0, iV 0]), (22, ptr bD 0), (23, iV 0), (24, .tuple #[ptr bJ 0, iV 0]), (25, ptr bD 0), (26, .tuple #[ptr bJ 0, iV 0]), (27, ptr bJ 0), (28, iV 0), (29, .bool true), (30, .bool (!true)), (31, .bool (!true)), (32, iV 0), (33, .bool (0 != 0)), (34, .bool (0 != 0)), (35, .bool (0 != 0)), (36, iV 0), (37, .bool (0 != 0)), (38, .bool (0 != 0))] [(100, dH true bD bS n n (0 + 1 + 1)), (101, rowS true bS (dskF n) 0), (102, ⟨true, bJ, 0, 82, [ptr bD 0, u64V (1#64), iV ((0 : Nat) : Int), .slice none 0 0, iV 0, .bool false], 0⟩), (103, ⟨true, 0, 0, 27, (([] : List BG)).map BG.v, 0⟩), (104, ⟨true, 0, 0, 27, (([] : List BG)).map BG.v, 0⟩)] [] (AllL.cons_ rfl (AllL.cons_ rfl (AllL.cons_ rfl (AllL.cons_ rfl (AllL.cons_ rfl (AllL.cons_ rfl (AllL.cons_ rfl (AllL.cons_ rfl (AllL.cons_ rfl (AllL.cons_ rfl (AllL.cons_ rfl (AllL.cons_ rfl (AllL.cons_ rfl (AllL.cons_ rfl (AllL.cons_ rfl (AllL.cons_ rfl (AllL.cons_ rfl (AllL.cons_ rfl (AllL.cons_ rfl (AllL.cons_ rfl (AllL.cons_ rfl (AllL.cons_ rfl (AllL.cons_ rfl (AllL.cons_ rfl (AllL.cons_ rfl (AllL.cons_ rfl (AllL.cons_ rfl (AllL.cons_ rfl (AllL.cons_ rfl (AllL.cons_ rfl (AllL.cons_ rfl (AllL.cons_ rfl trivial)))))))))))))))))))))))))))))))) (AllL.cons_ rfl (AllL.cons_ rfl (AllL.cons_ rfl (AllL.cons_ rfl (AllL.cons_ rfl trivial))))) trivial ?_
 refine At.famNew 100000 (fun i => (([] : List BG).getD i default).row 5) ?_
 refine At.toM [(0, iV size), (1, iV cnt), (4, .bool false), (5, ptr bD 0), (6, iV 0), (7, ptr bJ 0), (8, iV 0), (9, .slice none 0 0), (15, .tuple #[ptr bD 0, iV 0]), (16, iV size), (17, u64V (BitVec.ofInt 64 size)), (18, u64V ((BitVec.ofInt 64 size) % 60#64)), (19, iV (k19 : Int)), (20, iV (n : Int)), (21, .tuple #[ptr bD 0, iV 0]), (22, ptr bD 0), (23, iV 0), (24, .tuple #[ptr bJ 0, iV 0]), (25, ptr bD 0), (26, .tuple #[ptr bJ 0, iV 0]), (27, ptr bJ 0), (28, iV 0), (29, .bool true), (30, .bool (!true)), (31, .bool (!true)), (32, iV 0), (33, .bool (0 != 0)), (34, .bool (0 != 0)), (35, .bool (0 != 0)), (36, iV 0), (37, .bool (0 != 0)), (38, .bool (0 != 0))] [(100, dH true bD bS n n (0 + 1 + 1)), (101, rowS true bS (dskF n) 0), (102, ⟨true, bJ, 0, 82, [ptr bD 0, u64V (1#64), iV ((0 : Nat) : Int), .slice none 0 0, iV 0, .bool false], 0⟩), (103, ⟨true, 0, 0, 27, (([] : List BG)).map BG.v, 0⟩), (104, ⟨true, 0, 0, 27, (([] : List BG)).map BG.v, 0⟩)] [famG 100000 5 ([] : List BG)] (AllL.cons_ rfl (AllL.cons_ rfl (AllL.cons_ rfl (AllL.cons_ rfl (AllL.cons_ rfl (AllL.cons_ rfl (AllL.cons_ rfl (AllL.cons_ rfl (AllL.cons_ rfl (AllL.cons_ rfl (AllL.cons_ rfl (AllL.cons_ rfl (AllL.cons_ rfl (AllL.cons_ rfl (AllL.cons_ rfl (AllL.cons_ rfl (AllL.cons_ rfl (AllL.cons_ rfl (AllL.cons_ rfl (AllL.cons_ rfl (AllL.cons_ rfl (AllL.cons_ rfl (AllL.cons_ rfl (AllL.cons_ rfl (AllL.cons_ rfl (AllL.cons_ rfl (AllL.cons_ rfl (AllL.cons_ rfl (AllL.cons_ rfl (AllL.cons_ rfl (AllL.cons_ rfl (AllL.cons_ rfl trivial)))))))))))))))))))))))))))))))) (AllL.cons_ rfl (AllL.cons_ rfl (AllL.cons_ rfl (AllL.cons_ rfl (AllL.cons_ rfl trivial))))) (AllL.cons_ FK trivial) ?_
 refine At.famNew 100001 (fun i => (([] : List BG).getD i default).row 5) ?_
 refine At.nil ?_
 refine At.next ?_
 refine At.seq ?_
 refine At.seq ?_
 refine At.region ?_
 refine At.p (some 10) (P_assign rfl rfl) ?_
 refine At.nil ?_
 refine At.next ?_
 refine At.block ?_
 refine At.loopx (I := fun m fr H => ∃ (i : Nat) (S : List (BitVec 8)) (g : BitVec 64) (ar : Nat) (wr : Int) (bJ : Nat) (es : List BG) (A2 : Option Addr) (b2 c2 : Nat) (pre ls : List BG) (A3 : Option Addr) (b3 c3 : Nat), m = 120 - i ∧ fr = frOf [(0, iV size), (1, iV cnt), (5, ptr bD 0), (7, ptr bJ 0), (9, .slice A3 ls.length c3), (10, iV (i : Int))] ∧ H = famsOf (hOf [(100, dH true bD bS n n wr), (101, rowS true bS S 0), (102, ⟨true, bJ, 0, 82, [ptr bD 0, u64V g, iV (ar : Int), .slice A2 es.length c2, iV (uL es), .bool false], 0⟩), (103, ⟨true, b2, 0, 27, (es).map BG.v, c2 - (es).length⟩), (104, ⟨true, b3, 0, 27, ((pre ++ ls)).map BG.v, c3 - ls.length⟩)]) [famG 100000 5 es, famG 100001 5 ls] ∧ (i ≤ 120) ∧ (JInv S n ar g (es.map BG.l)) ∧ (ar ≤ 1) ∧ (g.toNat ≤ 1 + i) ∧ (0 ≤ wr ∧ wr ≤ 1000 + 1000 * (i : Int)) ∧ (0 < c2 → A2 = some ⟨b2, 0, none⟩) ∧ (es.length ≤ c2) ∧ (∀ e ∈ es, e.ok) ∧ (0 < c3 → A3 = some ⟨b3, pre.length, none⟩) ∧ (ls.length ≤ c3) ∧ (∀ e ∈ ls, e.ok) ∧ (∀ e ∈ ls, e.l.length = 3) ∧ (es.map BG.l = ls.map BG.l)) ?_ ?_
 ·
  intro Kc0 hKc0
  refine At.toM [(0, _), (1, _), (5, _), (7, _), (9, _), (10, _)] [(100, _), (101, _), (102, _), (103, _), (104, _)] [famG 100000 5 ([] : List BG), famG 100001 5 ([] : List BG)] (AllL.cons_ (rfl) (AllL.cons_ (rfl) (AllL.cons_ (rfl) (AllL.cons_ (rfl) (AllL.cons_ (rfl) (AllL.cons_ (rfl) trivial)))))) (AllL.cons_ (rfl) (AllL.cons_ (rfl) (AllL.cons_ (rfl) (AllL.cons_ (rfl) (AllL.cons_ (rfl) trivial))))) (AllL.cons_ FK (AllL.cons_ FK trivial)) ?_
  exact hKc0 _ _ _ ⟨0, (dskF n), 1#64, 0, (0 + 1 + 1), bJ, ([] : List BG), none, 0, 0, ([] : List BG), ([] : List BG), none, 0, 0, rfl, rfl, rfl, (by omega), (dskF_inv (by omega)), (by decide), (by decide), (by decide), (fun h => absurd h (Nat.lt_irrefl 0)), (Nat.le_refl _), (fun e he => nomatch he), (fun h => absurd h (Nat.lt_irrefl 0)), (Nat.le_refl _), (fun e he => nomatch he), (fun e he => nomatch he), rfl⟩
 ·
  rintro m fr H ⟨i, S, g, ar, wr, bJ, es, A2, b2, c2, pre, ls, A3, b3, c3, rfl, rfl, rfl, hi, hJ, har, hg, hw, hA2, hc2, hes, hA3, hc3, hls, hl3, hm⟩ Kc0 hKc0
  have hel : es.length = ls.length := by have := congrArg List.length hm; simpa using this
  have hel2 : es.length ≤ (n - 2) / 2 := by have := hJ.st.1; rwa [List.length_map] at this
  have huL : uL es = (es.length : Int) := rfl
  have hJl := hJ.len
  refine At.seq ?_
  refine At.seq ?_
  refine At.region ?_
  refine At.p (some 39) (P_move rfl rfl) ?_
  refine At.p (some 40) (P_move rfl rfl) ?_
  refine At.p (some 41) (P_conv_iw UK.u64 rfl Try.underlying3 Try.underlying22 rfl) ?_
  refine At.p (some 42) (P_rem_w UK.u64 (b := 120#64) rfl rfl rfl (by decide)) ?_
  obtain ⟨k43, hk43, hek43, hdk43⟩ := umod_c ((BitVec.ofInt 64 cnt)) 120#64 (by decide) (by decide)
  have hk43 : k43 < 120 := hk43
  refine At.p (some 43) (P_conv_WiE hek43 rfl Try.underlying22 Try.underlying3 rfl) ?_
  refine At.p (some 44) (P_cmp rfl rfl rfl rfl rfl rfl) ?_
  refine At.nil ?_
  refine At.next ?_
  refine At.cond rfl (fun h44 => ?_) (fun h44 => ?_)
  · -- cond 44 t
   have e44 : (i : Int) < (k43 : Int) := of_decide_eq_true h44
   refine At.skip ?_
   refine At.next ?_
   refine At.seq ?_
   refine At.block ?_
   refine At.seq ?_
   refine At.region ?_
   refine At.p (some 47) (P_move rfl rfl) ?_
   refine At.p (some 48) (P_conv_iw UK.u8 rfl Try.underlying3 Try.underlying5 rfl) ?_
   refine At.p (some 49) (P_move rfl rfl) ?_
   refine At.p (some 50) (P_shr_i rfl rfl rfl (by first | decide | omega) (by first | decide | omega)) ?_
   refine At.p (some 51) (P_conv_iw UK.u8 rfl Try.underlying3 Try.underlying5 rfl) ?_
   refine At.s (S_buildSliceV (some 52) 52 (([(BitVec.ofInt 8 (i : Int)), (BitVec.ofInt 8 ((i : Int) / 2 ^ 8)), 1#8]).map u8V) rfl Try.underlying27 sz5 ze5 rfl rfl (by decide) (by decide) rfl ⟨rfl, rfl, rfl⟩ (fun b52 => ?_))
   refine At.p (some 11) (P_assign rfl rfl) ?_
   refine At.nil ?_
   refine At.next ?_
   refine At.seq ?_
   rcases Nat.lt_or_ge es.length ((n - 2) / 2) with hR | hR
   · -- case 0
    refine At.region ?_
    refine At.p (some 53) (P_move rfl rfl) ?_
    refine At.p (some 54) (P_move rfl rfl) ?_
    refine At.s (S_callR (some 55) [(100, _), (101, _), (102, _), (103, _)] [(52, _)] [100, 101, 102, 103, 105] (vs := [_, _]) rfl en29 rfl (ON rfl rfl (ON rfl rfl (ON rfl rfl (ON rfl rfl O0)))) (by simp) (VN (by simp) rfl View.all V0) (by simp) (c_AppY (bD := bD) (bS := bS) (cD := n) (nD := n) (rD := 0) (S := S) (wr := wr) (bJ := bJ) (ar := ar) (cj := c2) (gen := g) (es := es) (Aj := A2) (e := [(BitVec.ofInt 8 (i : Int)), (BitVec.ofInt 8 ((i : Int) / 2 ^ 8)), 1#8]) (Ae := (some ⟨b52, 0, none⟩)) (ce := 3) (be := b52) (bj := b2) hJ.len (by omega) (by omega) (by omega) (by omega) (by omega) (by omega) hA2 (by omega) rfl (by simp) (by simp) (by simp) (by omega)) (by rintro _ _ ⟨A9, b9, c9, A6, b6, c6, h9a, h9b, h6, rfl, rfl⟩; rfl) ?_)
    rintro _ _ ⟨A9, b9, c9, A6, b6, c6, h9a, h9b, h6, rfl, rfl⟩
    refine At.toM [(0, iV size), (1, iV cnt), (5, ptr bD 0), (7, ptr bJ 0), (9, .slice A3 ls.length c3), (10, iV (i : Int)), (11, .slice (some ⟨b52, 0, none⟩) 3 3), (39, iV (i : Int)), (40, iV cnt), (41, u64V (BitVec.ofInt 64 cnt)), (42, u64V ((BitVec.ofInt 64 cnt) % 120#64)), (43, iV (k43 : Int)), (44, .bool (decide ((i : Int) < (k43 : Int)))), (47, iV (i : Int)), (48, u8V (BitVec.ofInt 8 (i : Int))), (49, iV (i : Int)), (50, iV ((i : Int) / 2 ^ 8)), (51, u8V (BitVec.ofInt 8 ((i : Int) / 2 ^ 8))), (52, .slice (some ⟨b52, 0, none⟩) 3 3), (53, ptr bJ 0), (54, .slice (some ⟨b52, 0, none⟩) 3 3), (55, iV 0)] [(105, ⟨true, b6, 0, 5, ([(BitVec.ofInt 8 (i : Int)), (BitVec.ofInt 8 ((i : Int) / 2 ^ 8)), 1#8]).map u8V, c6 - ([(BitVec.ofInt 8 (i : Int)), (BitVec.ofInt 8 ((i : Int) / 2 ^ 8)), 1#8]).length⟩), (52, ⟨true, b52, 0, 5, ([(BitVec.ofInt 8 (i : Int)), (BitVec.ofInt 8 ((i : Int) / 2 ^ 8)), 1#8]).map u8V, 0⟩), (100, dH true bD bS n n (wr + 1)), (101, rowS true bS (splice S ((fstS n ar + es.length) * 64) (secB g es.length [(BitVec.ofInt 8 (i : Int)), (BitVec.ofInt 8 ((i : Int) / 2 ^ 8)), 1#8])) 0), (102, ⟨true, bJ, 0, 82, [ptr bD 0, u64V g, iV (ar : Int), .slice A9 ((es ++ [(bG A6 b6 c6 [(BitVec.ofInt 8 (i : Int)), (BitVec.ofInt 8 ((i : Int) / 2 ^ 8)), 1#8])]).length) c9, iV (uL (es ++ [(bG A6 b6 c6 [(BitVec.ofInt 8 (i : Int)), (BitVec.ofInt 8 ((i : Int) / 2 ^ 8)), 1#8])])), .bool false], 0⟩), (103, ⟨true, b9, 0, 27, ((es ++ [(bG A6 b6 c6 [(BitVec.ofInt 8 (i : Int)), (BitVec.ofInt 8 ((i : Int) / 2 ^ 8)), 1#8])])).map BG.v, c9 - ((es ++ [(bG A6 b6 c6 [(BitVec.ofInt 8 (i : Int)), (BitVec.ofInt 8 ((i : Int) / 2 ^ 8)), 1#8])])).length⟩), (104, ⟨true, b3, 0, 27, ((pre ++ ls)).map BG.v, c3 - ls.length⟩)] [famG 100000 5 es, famG 100001 5 ls] (AllL.cons_ rfl (AllL.cons_ rfl (AllL.cons_ rfl (AllL.cons_ rfl (AllL.cons_ rfl (AllL.cons_ rfl (AllL.cons_ rfl (AllL.cons_ rfl (AllL.cons_ rfl (AllL.cons_ rfl (AllL.cons_ rfl (AllL.cons_ rfl (AllL.cons_ rfl (AllL.cons_ rfl (AllL.cons_ rfl (AllL.cons_ rfl (AllL.cons_ rfl (AllL.cons_ rfl (AllL.cons_ rfl (AllL.cons_ rfl (AllL.cons_ rfl (AllL.cons_ rfl trivial)))))))))))))))))))))) (AllL.cons_ rfl (AllL.cons_ rfl (AllL.cons_ rfl (AllL.cons_ rfl (AllL.cons_ rfl (AllL.cons_ rfl (AllL.cons_ rfl trivial))))))) (AllL.cons_ FK (AllL.cons_ FK trivial)) ?_
    refine At.famPushG (bG A6 b6 c6 [(BitVec.ofInt 8 (i : Int)), (BitVec.ofInt 8 ((i : Int) / 2 ^ 8)), 1#8]) (AllL.cons_ rfl (AllL.cons_ rfl (AllL.cons_ rfl (AllL.cons_ rfl (AllL.cons_ rfl (AllL.cons_ rfl trivial)))))) rfl (AllL.cons_ rfl trivial) ?_
    refine At.p (some 12) (P_assign rfl rfl) ?_
    refine At.nil ?_
    refine At.next ?_
    refine At.seqJ (fun fr H => ∃ (S3 : List (BitVec 8)) (g3 : BitVec 64) (ar3 : Nat) (wr3 : Int) (es3 : List BG) (A5 : Option Addr) (b5 c5 : Nat) (pre3 ls3 : List BG) (A6 : Option Addr) (c6 : Nat), fr = frOf [(0, iV size), (1, iV cnt), (5, ptr bD 0), (7, ptr bJ 0), (9, .slice A6 ls3.length c6), (10, iV (i : Int)), (11, .slice (some ⟨b52, 0, none⟩) 3 3), (12, iV 0)] ∧ H = famsOf (hOf [(52, ⟨true, b52, 0, 5, ([(BitVec.ofInt 8 (i : Int)), (BitVec.ofInt 8 ((i : Int) / 2 ^ 8)), 1#8]).map u8V, 0⟩), (100, dH true bD bS n n wr3), (101, rowS true bS S3 0), (102, ⟨true, bJ, 0, 82, [ptr bD 0, u64V g3, iV (ar3 : Int), .slice A5 es3.length c5, iV (uL es3), .bool false], 0⟩), (103, ⟨true, b5, 0, 27, (es3).map BG.v, c5 - (es3).length⟩), (104, ⟨true, b3, 0, 27, ((pre3 ++ ls3)).map BG.v, c6 - ls3.length⟩)]) [famG 100000 5 es3, famG 100001 5 ls3] ∧ (JInv S3 n ar3 g3 (es3.map BG.l)) ∧ (ar3 ≤ 1) ∧ (g3.toNat ≤ 2 + i) ∧ (0 ≤ wr3 ∧ wr3 ≤ 2000 + 1000 * (i : Int)) ∧ (0 < c5 → A5 = some ⟨b5, 0, none⟩) ∧ (es3.length ≤ c5) ∧ (∀ e ∈ es3, e.ok) ∧ (0 < c6 → A6 = some ⟨b3, pre3.length, none⟩) ∧ (ls3.length ≤ c6) ∧ (∀ e ∈ ls3, e.ok) ∧ (∀ e ∈ ls3, e.l.length = 3) ∧ (es3.map BG.l = ls3.map BG.l ++ [[(BitVec.ofInt 8 (i : Int)), (BitVec.ofInt 8 ((i : Int) / 2 ^ 8)), 1#8]])) ?_ ?_
    ·
     intro Kj1 hKj1
     refine At.seq ?_
     refine At.region ?_
     refine At.p (some 56) (P_move rfl rfl) ?_
     refine At.p (some 57) (P_cmp rfl rfl rfl rfl rfl rfl) ?_
     refine At.nil ?_
     refine At.next ?_
     refine At.cond rfl (fun h57 => by exact absurd h57 (by decide)) (fun h57 => ?_)
     have e57 : 0 ≠ 5 := beq_eq_false_iff_ne.1 h57
     refine At.skip ?_
     refine At.next ?_
     refine At.toM [(0, _), (1, _), (5, _), (7, _), (9, _), (10, _), (11, _), (12, _)] [(52, _), (100, _), (101, _), (102, _), (103, _), (104, _)] [famG 100000 5 (es ++ [(bG A6 b6 c6 [(BitVec.ofInt 8 (i : Int)), (BitVec.ofInt 8 ((i : Int) / 2 ^ 8)), 1#8])]), famG 100001 5 ls] (AllL.cons_ (rfl) (AllL.cons_ (rfl) (AllL.cons_ (rfl) (AllL.cons_ (rfl) (AllL.cons_ (rfl) (AllL.cons_ (rfl) (AllL.cons_ (rfl) (AllL.cons_ (rfl) trivial)))))))) (AllL.cons_ (rfl) (AllL.cons_ (rfl) (AllL.cons_ (rfl) (AllL.cons_ (rfl) (AllL.cons_ (rfl) (AllL.cons_ (rfl) trivial)))))) (AllL.cons_ FK (AllL.cons_ FK trivial)) ?_
     exact hKj1 _ _ ⟨(splice S ((fstS n ar + es.length) * 64) (secB g es.length [(BitVec.ofInt 8 (i : Int)), (BitVec.ofInt 8 ((i : Int) / 2 ^ 8)), 1#8])), g, ar, (wr + 1), (es ++ [(bG A6 b6 c6 [(BitVec.ofInt 8 (i : Int)), (BitVec.ofInt 8 ((i : Int) / 2 ^ 8)), 1#8])]), A9, b9, c9, pre, ls, A3, c3, rfl, rfl, (hJ.pushG (by omega) har hR rfl), har, (by omega), (by omega), h9a, h9b, (BG.okP hes h6), hA3, hc3, hls, hl3, (by rw [List.map_append, hm]; rfl)⟩
    ·
     rintro fr H ⟨S3, g3, ar3, wr3, es3, A5, b5, c5, pre3, ls3, A6, c6, rfl, rfl, hJ3, har3, hg3, hw3, hA5, hc5, hes3, hA6, hc6, hls3, hl33, hm3⟩
     have hel3 : es3.length = ls3.length + 1 := by have := congrArg List.length hm3; simpa using this
     have hel32 : es3.length ≤ (n - 2) / 2 := by have := hJ3.st.1; rwa [List.length_map] at this
     have hJl3 := hJ3.len
     refine At.seq ?_
     refine At.seq ?_
     refine At.region ?_
     refine At.p (some 71) (P_move rfl rfl) ?_
     refine At.p (some 72) (P_cmp rfl rfl rfl rfl rfl rfl) ?_
     refine At.nil ?_
     refine At.next ?_
     refine At.cond rfl (fun h72 => by exact absurd h72 (by decide)) (fun h72 => ?_)
     have e72 : 0 = 0 := bne_eq_false_iff_eq.1 h72
     refine At.skip ?_
     refine At.next ?_
     refine At.seq ?_
     refine At.region ?_
     refine At.p (some 73) (P_move rfl rfl) ?_
     refine At.p (some 74) (P_move rfl rfl) ?_
     refine At.s (S_buildSliceV (some 75) 75 (([(bG (some ⟨b52, 0, none⟩) b52 3 [(BitVec.ofInt 8 (i : Int)), (BitVec.ofInt 8 ((i : Int) / 2 ^ 8)), 1#8])]).map BG.v) rfl Try.underlying44 sz27 ze27 rfl rfl (by decide) (by decide) rfl rfl (fun b75 => ?_))
     -- L [(bG (some ⟨b52, 0, none⟩) b52 3 [(BitVec.ofInt 8 (i : Int)), (BitVec.ofInt 8 ((i : Int) / 2 ^ 8)), 1#8])] m 1
     refine At.s (S_appendD (some 76) 104 (f := BG.v) (pre := pre3) (l := ls3) (L := [(bG (some ⟨b52, 0, none⟩) b52 3 [(BitVec.ofInt 8 (i : Int)), (BitVec.ofInt 8 ((i : Int) / 2 ^ 8)), 1#8])]) (m := 1) rfl Try.underlying44 Try.underlying44 (.inr ⟨_, rfl⟩) sz27 by27 ze27 rfl rfl hA6 rfl rfl hc6 (Src.all (k := 75) (l := [(bG (some ⟨b52, 0, none⟩) b52 3 [(BitVec.ofInt 8 (i : Int)), (BitVec.ofInt 8 ((i : Int) / 2 ^ 8)), 1#8])]) rfl (fun _ => rfl) (fun _ => ⟨rfl, rfl, rfl⟩) LN) (by intro u hu; simp at hu; subst hu; rfl) (by omega) (by omega) ?_)
     intro A10 b10 c10 pre10 hA10 hc10
     refine At.toM [(0, iV size), (1, iV cnt), (5, ptr bD 0), (7, ptr bJ 0), (9, .slice A6 ls3.length c6), (10, iV (i : Int)), (11, .slice (some ⟨b52, 0, none⟩) 3 3), (12, iV 0), (71, iV 0), (72, .bool (0 != 0)), (73, .slice A6 ls3.length c6), (74, .slice (some ⟨b52, 0, none⟩) 3 3), (76, .slice A10 (ls3.length + 1) c10)] [(52, ⟨true, b52, 0, 5, ([(BitVec.ofInt 8 (i : Int)), (BitVec.ofInt 8 ((i : Int) / 2 ^ 8)), 1#8]).map u8V, 0⟩), (100, dH true bD bS n n wr3), (101, rowS true bS S3 0), (102, ⟨true, bJ, 0, 82, [ptr bD 0, u64V g3, iV (ar3 : Int), .slice A5 es3.length c5, iV (uL es3), .bool false], 0⟩), (103, ⟨true, b5, 0, 27, (es3).map BG.v, c5 - (es3).length⟩), (104, ⟨true, b10, 0, 27, ((pre10 ++ (ls3 ++ [(bG (some ⟨b52, 0, none⟩) b52 3 [(BitVec.ofInt 8 (i : Int)), (BitVec.ofInt 8 ((i : Int) / 2 ^ 8)), 1#8])]))).map BG.v, c10 - (ls3.length + 1)⟩)] [famG 100001 5 ls3, famG 100000 5 es3] (AllL.cons_ rfl (AllL.cons_ rfl (AllL.cons_ rfl (AllL.cons_ rfl (AllL.cons_ rfl (AllL.cons_ rfl (AllL.cons_ rfl (AllL.cons_ rfl (AllL.cons_ rfl (AllL.cons_ rfl (AllL.cons_ rfl (AllL.cons_ rfl (AllL.cons_ rfl trivial))))))))))))) (AllL.cons_ rfl (AllL.cons_ rfl (AllL.cons_ rfl (AllL.cons_ rfl (AllL.cons_ rfl (AllL.cons_ rfl trivial)))))) (AllL.cons_ FK (AllL.cons_ FK trivial)) ?_
     refine At.famPushG (bG (some ⟨b52, 0, none⟩) b52 3 [(BitVec.ofInt 8 (i : Int)), (BitVec.ofInt 8 ((i : Int) / 2 ^ 8)), 1#8]) (AllL.cons_ rfl (AllL.cons_ rfl (AllL.cons_ rfl (AllL.cons_ rfl (AllL.cons_ rfl trivial))))) rfl (AllL.cons_ rfl trivial) ?_
     refine At.p (some 9) (P_assign rfl rfl) ?_
     refine At.nil ?_
     refine At.next ?_
     refine At.seq ?_
     refine At.region ?_
     refine At.p (some 77) (P_move rfl rfl) ?_
     refine At.p (some 78) (P_rem_i rfl rfl rfl (by omega) (by first | decide | omega)) ?_
     refine At.p (some 79) (P_cmp rfl rfl rfl rfl rfl rfl) ?_
     refine At.nil ?_
     refine At.next ?_
     refine At.cond rfl (fun h79 => ?_) (fun h79 => ?_)
     · -- cond 79 t
      have e79 : ((i : Int) % 7) = 6 := eq_of_beq h79
      refine At.seq ?_
      refine At.region ?_
      refine At.p (some 81) (P_move rfl rfl) ?_
      refine At.s (S_callRF (some 82) [] [(100, _), (101, _)] [102, 103] 100000 (vs := [_]) rfl en31 rfl O0 (by simp) (VN (by simp) rfl View.all (VN (by simp) rfl View.all V0)) (by simp) ⟨rfl, rfl⟩ (c_Open (bD := bD) (bS := bS) (cD := n) (nD := n) (rD := 0) (S := S3) (wr := wr3) (ar := ar3) (gen := g3) (L := es3.map BG.l) hJ3.len (by omega) (by omega) (by omega) (by omega) (by omega) har3 hJ3.pk hJ3.st) (by rintro _ _ ⟨_, _, _, _, _, _, _, _, _, _, rfl⟩; simp) ?_)
      rintro _ _ ⟨bK, es5, A8, b8, c8, hA8, hc8, hes5, hm5, rfl, rfl⟩
      rw [sets_famG rfl]
      refine At.p (some 80) (P_move rfl rfl) ?_
      refine At.p (some 83) (P_extract rfl rfl rfl) ?_
      refine At.p (some 84) (P_extract rfl rfl rfl) ?_
      refine At.p (some 13) (P_assign rfl rfl) ?_
      refine At.p (some 14) (P_assign rfl rfl) ?_
      refine At.nil ?_
      refine At.next ?_
      refine At.seq ?_
      refine At.seq ?_
      refine At.region ?_
      refine At.p (some 85) (P_move rfl rfl) ?_
      refine At.p (some 86) (P_cmp rfl rfl rfl rfl rfl rfl) ?_
      refine At.nil ?_
      refine At.next ?_
      refine At.cond rfl (fun h86 => by exact absurd h86 (by decide)) (fun h86 => ?_)
      have e86 : 0 = 0 := bne_eq_false_iff_eq.1 h86
      refine At.skip ?_
      refine At.next ?_
      refine At.region ?_
      refine At.p (some 87) (P_move rfl rfl) ?_
      refine At.p (some 7) (P_assign rfl rfl) ?_
      refine At.nil ?_
      refine At.inb_n ?_
      refine At.next ?_
      refine At.region ?_
      refine At.p (some 45) (P_move rfl rfl) ?_
      refine At.p (some 46) (P_add_i rfl rfl rfl (by omega)) ?_
      refine At.p (some 10) (P_assign rfl rfl) ?_
      refine At.nil ?_
      refine At.next ?_
      refine At.toM [(0, _), (1, _), (5, _), (7, _), (9, .slice A10 (ls3 ++ [(bG (some ⟨b52, 0, none⟩) b52 3 [(BitVec.ofInt 8 (i : Int)), (BitVec.ofInt 8 ((i : Int) / 2 ^ 8)), 1#8])]).length c10), (10, iV ((i + 1 : Nat) : Int))] [(100, _), (101, _), (102, _), (103, _), (104, ⟨true, b10, 0, 27, ((pre10 ++ (ls3 ++ [(bG (some ⟨b52, 0, none⟩) b52 3 [(BitVec.ofInt 8 (i : Int)), (BitVec.ofInt 8 ((i : Int) / 2 ^ 8)), 1#8])]))).map BG.v, c10 - (ls3 ++ [(bG (some ⟨b52, 0, none⟩) b52 3 [(BitVec.ofInt 8 (i : Int)), (BitVec.ofInt 8 ((i : Int) / 2 ^ 8)), 1#8])]).length⟩)] [famG 100000 5 es5, famG 100001 5 (ls3 ++ [(bG (some ⟨b52, 0, none⟩) b52 3 [(BitVec.ofInt 8 (i : Int)), (BitVec.ofInt 8 ((i : Int) / 2 ^ 8)), 1#8])])] (AllL.cons_ (rfl) (AllL.cons_ (rfl) (AllL.cons_ (rfl) (AllL.cons_ (rfl) (AllL.cons_ ((by rw [List.length_append]; rfl)) (AllL.cons_ (rfl) trivial)))))) (AllL.cons_ (rfl) (AllL.cons_ (rfl) (AllL.cons_ (rfl) (AllL.cons_ (rfl) (AllL.cons_ ((by rw [List.length_append]; rfl)) trivial))))) (AllL.cons_ FK (AllL.cons_ FK trivial)) ?_
      exact hKc0 _ _ _ (by omega) ⟨(i + 1), S3, g3, ar3, wr3, bK, es5, A8, b8, c8, pre10, (ls3 ++ [(bG (some ⟨b52, 0, none⟩) b52 3 [(BitVec.ofInt 8 (i : Int)), (BitVec.ofInt 8 ((i : Int) / 2 ^ 8)), 1#8])]), A10, b10, c10, rfl, rfl, rfl, (by omega), (by first | (rw [hm5]; exact hJ3) | exact hJ3), har3, (by omega), (by omega), (by first | exact hA8 | exact hA5), (by first | exact hc8 | exact hc5), (by first | exact hes5 | exact hes3), hA10, (by simp only [List.length_append, List.length_singleton]; exact hc10), (BG.okP hls3 (bG_ok (fun _ => rfl) (by simp))), (push3 hl33 rfl), (by rw [List.map_append]; first | exact hm5.trans hm3 | exact hm3)⟩
     · -- cond 79 f
      have e79 : ((i : Int) % 7) ≠ 6 := beq_eq_false_iff_ne.1 h79
      refine At.skip ?_
      refine At.inb_n ?_
      refine At.next ?_
      refine At.region ?_
      refine At.p (some 45) (P_move rfl rfl) ?_
      refine At.p (some 46) (P_add_i rfl rfl rfl (by omega)) ?_
      refine At.p (some 10) (P_assign rfl rfl) ?_
      refine At.nil ?_
      refine At.next ?_
      refine At.toM [(0, _), (1, _), (5, _), (7, _), (9, .slice A10 (ls3 ++ [(bG (some ⟨b52, 0, none⟩) b52 3 [(BitVec.ofInt 8 (i : Int)), (BitVec.ofInt 8 ((i : Int) / 2 ^ 8)), 1#8])]).length c10), (10, iV ((i + 1 : Nat) : Int))] [(100, _), (101, _), (102, _), (103, _), (104, ⟨true, b10, 0, 27, ((pre10 ++ (ls3 ++ [(bG (some ⟨b52, 0, none⟩) b52 3 [(BitVec.ofInt 8 (i : Int)), (BitVec.ofInt 8 ((i : Int) / 2 ^ 8)), 1#8])]))).map BG.v, c10 - (ls3 ++ [(bG (some ⟨b52, 0, none⟩) b52 3 [(BitVec.ofInt 8 (i : Int)), (BitVec.ofInt 8 ((i : Int) / 2 ^ 8)), 1#8])]).length⟩)] [famG 100000 5 es3, famG 100001 5 (ls3 ++ [(bG (some ⟨b52, 0, none⟩) b52 3 [(BitVec.ofInt 8 (i : Int)), (BitVec.ofInt 8 ((i : Int) / 2 ^ 8)), 1#8])])] (AllL.cons_ (rfl) (AllL.cons_ (rfl) (AllL.cons_ (rfl) (AllL.cons_ (rfl) (AllL.cons_ ((by rw [List.length_append]; rfl)) (AllL.cons_ (rfl) trivial)))))) (AllL.cons_ (rfl) (AllL.cons_ (rfl) (AllL.cons_ (rfl) (AllL.cons_ (rfl) (AllL.cons_ ((by rw [List.length_append]; rfl)) trivial))))) (AllL.cons_ FK (AllL.cons_ FK trivial)) ?_
      exact hKc0 _ _ _ (by omega) ⟨(i + 1), S3, g3, ar3, wr3, bJ, es3, A5, b5, c5, pre10, (ls3 ++ [(bG (some ⟨b52, 0, none⟩) b52 3 [(BitVec.ofInt 8 (i : Int)), (BitVec.ofInt 8 ((i : Int) / 2 ^ 8)), 1#8])]), A10, b10, c10, rfl, rfl, rfl, (by omega), (by first | (rw [hm5]; exact hJ3) | exact hJ3), har3, (by omega), (by omega), (by first | exact hA8 | exact hA5), (by first | exact hc8 | exact hc5), (by first | exact hes5 | exact hes3), hA10, (by simp only [List.length_append, List.length_singleton]; exact hc10), (BG.okP hls3 (bG_ok (fun _ => rfl) (by simp))), (push3 hl33 rfl), (by rw [List.map_append]; first | exact hm5.trans hm3 | exact hm3)⟩
   · -- case 1
    have hrl : es.length = (n - 2) / 2 := by omega
    obtain ⟨k1, hk1⟩ : ∃ k1, k1 = ls.length / 2 + 1 := ⟨_, rfl⟩
    refine At.region ?_
    refine At.p (some 53) (P_move rfl rfl) ?_
    refine At.p (some 54) (P_move rfl rfl) ?_
    refine At.s (S_callV (some 55) [(100, _), (101, _), (102, _), (52, _)] [] (vs := [_, _]) rfl en29 rfl (VN (by simp) rfl View.all (VN (by simp) rfl View.all (VN (by simp) rfl View.all (VN (by simp) rfl View.all V0)))) (by simp) (c_AppN (bD := bD) (bS := bS) (cD := n) (nD := n) (rD := 0) (S := S) (wr := wr) (bJ := bJ) (ar := ar) (cj := c2) (gen := g) (es := es) (Aj := A2) (e := [(BitVec.ofInt 8 (i : Int)), (BitVec.ofInt 8 ((i : Int) / 2 ^ 8)), 1#8]) (Ae := (some ⟨b52, 0, none⟩)) (ce := 3) (be := b52) hJ.len (by omega) (by omega) (by omega) (by omega) (by omega) rfl (by simp) (by simp) (by simp) hrl) (by rintro _ _ ⟨rfl, rfl⟩; rfl) ?_)
    rintro _ _ ⟨rfl, rfl⟩
    refine At.p (some 12) (P_assign rfl rfl) ?_
    refine At.nil ?_
    refine At.next ?_
    refine At.seqJ (fun fr H => ∃ (S3 : List (BitVec 8)) (g3 : BitVec 64) (ar3 : Nat) (wr3 : Int) (es3 : List BG) (A5 : Option Addr) (b5 c5 : Nat) (pre3 ls3 : List BG) (A6 : Option Addr) (c6 : Nat), fr = frOf [(0, iV size), (1, iV cnt), (5, ptr bD 0), (7, ptr bJ 0), (9, .slice A6 ls3.length c6), (10, iV (i : Int)), (11, .slice (some ⟨b52, 0, none⟩) 3 3), (12, iV 0)] ∧ H = famsOf (hOf [(52, ⟨true, b52, 0, 5, ([(BitVec.ofInt 8 (i : Int)), (BitVec.ofInt 8 ((i : Int) / 2 ^ 8)), 1#8]).map u8V, 0⟩), (100, dH true bD bS n n wr3), (101, rowS true bS S3 0), (102, ⟨true, bJ, 0, 82, [ptr bD 0, u64V g3, iV (ar3 : Int), .slice A5 es3.length c5, iV (uL es3), .bool false], 0⟩), (103, ⟨true, b5, 0, 27, (es3).map BG.v, c5 - (es3).length⟩), (104, ⟨true, b3, 0, 27, ((pre3 ++ ls3)).map BG.v, c6 - ls3.length⟩)]) [famG 100000 5 es3, famG 100001 5 ls3] ∧ (JInv S3 n ar3 g3 (es3.map BG.l)) ∧ (ar3 ≤ 1) ∧ (g3.toNat ≤ 2 + i) ∧ (0 ≤ wr3 ∧ wr3 ≤ 2000 + 1000 * (i : Int)) ∧ (0 < c5 → A5 = some ⟨b5, 0, none⟩) ∧ (es3.length ≤ c5) ∧ (∀ e ∈ es3, e.ok) ∧ (0 < c6 → A6 = some ⟨b3, pre3.length, none⟩) ∧ (ls3.length ≤ c6) ∧ (∀ e ∈ ls3, e.ok) ∧ (∀ e ∈ ls3, e.l.length = 3) ∧ (es3.map BG.l = ls3.map BG.l ++ [[(BitVec.ofInt 8 (i : Int)), (BitVec.ofInt 8 ((i : Int) / 2 ^ 8)), 1#8]])) ?_ ?_
    ·
     intro Kj2 hKj2
     refine At.seq ?_
     refine At.region ?_
     refine At.p (some 56) (P_move rfl rfl) ?_
     refine At.p (some 57) (P_cmp rfl rfl rfl rfl rfl rfl) ?_
     refine At.nil ?_
     refine At.next ?_
     refine At.cond rfl (fun h57 => ?_) (fun h57 => by exact absurd h57 (by decide))
     have e57 : 5 = 5 := eq_of_beq h57
     refine At.seq ?_
     refine At.region ?_
     refine At.p (some 58) (P_move rfl rfl) ?_
     refine At.p (some 59) (P_move rfl rfl) ?_
     refine At.p (some 60) (P_len_sl rfl rfl ⟨_, Try.underlying44⟩ rfl) ?_
     refine At.p (some 61) (P_quo_i rfl rfl rfl (by omega) (by omega) (by first | decide | omega)) ?_
     refine At.p (some 62) (P_add_i rfl rfl rfl (by omega)) ?_
     have q62 : ((((ls.length : Int) / 2) + 1) : Int) = (k1 : Int) := (by omega)
     simp only [q62]
     refine At.p (some 63) (P_slice_sl (l := k1) (h := ls.length) (m := c3) rfl Try.underlying44 sz27 rfl ⟨_, _, rfl, by omega⟩ rfl rfl DO DO DO) ?_
     refine At.toM [(0, iV size), (1, iV cnt), (5, ptr bD 0), (7, ptr bJ 0), (9, .slice A3 ls.length c3), (10, iV (i : Int)), (11, .slice (some ⟨b52, 0, none⟩) 3 3), (12, iV 5), (39, iV (i : Int)), (40, iV cnt), (41, u64V (BitVec.ofInt 64 cnt)), (42, u64V ((BitVec.ofInt 64 cnt) % 120#64)), (43, iV (k43 : Int)), (44, .bool (decide ((i : Int) < (k43 : Int)))), (47, iV (i : Int)), (48, u8V (BitVec.ofInt 8 (i : Int))), (49, iV (i : Int)), (50, iV ((i : Int) / 2 ^ 8)), (51, u8V (BitVec.ofInt 8 ((i : Int) / 2 ^ 8))), (52, .slice (some ⟨b52, 0, none⟩) 3 3), (53, ptr bJ 0), (54, .slice (some ⟨b52, 0, none⟩) 3 3), (55, iV 5), (56, iV 5), (57, .bool (5 == 5)), (58, .slice A3 ls.length c3), (59, .slice A3 ls.length c3), (60, iV (ls.length : Int)), (61, iV ((ls.length : Int) / 2)), (62, iV (k1 : Int)), (63, .slice (cut A3 k1 c3 1) (ls.length - k1) (c3 - k1))] [(52, ⟨true, b52, 0, 5, ([(BitVec.ofInt 8 (i : Int)), (BitVec.ofInt 8 ((i : Int) / 2 ^ 8)), 1#8]).map u8V, 0⟩), (100, dH true bD bS n n wr), (101, rowS true bS S 0), (102, ⟨true, bJ, 0, 82, [ptr bD 0, u64V g, iV (ar : Int), .slice A2 es.length c2, iV (uL es), .bool false], 0⟩), (103, ⟨true, b2, 0, 27, (es).map BG.v, c2 - (es).length⟩), (104, ⟨true, b3, 0, 27, ((pre ++ ls)).map BG.v, c3 - ls.length⟩)] [famG 100001 5 ls, famG 100000 5 es] (AllL.cons_ rfl (AllL.cons_ rfl (AllL.cons_ rfl (AllL.cons_ rfl (AllL.cons_ rfl (AllL.cons_ rfl (AllL.cons_ rfl (AllL.cons_ rfl (AllL.cons_ rfl (AllL.cons_ rfl (AllL.cons_ rfl (AllL.cons_ rfl (AllL.cons_ rfl (AllL.cons_ rfl (AllL.cons_ rfl (AllL.cons_ rfl (AllL.cons_ rfl (AllL.cons_ rfl (AllL.cons_ rfl (AllL.cons_ rfl (AllL.cons_ rfl (AllL.cons_ rfl (AllL.cons_ rfl (AllL.cons_ rfl (AllL.cons_ rfl (AllL.cons_ rfl (AllL.cons_ rfl (AllL.cons_ rfl (AllL.cons_ rfl (AllL.cons_ rfl (AllL.cons_ rfl trivial))))))))))))))))))))))))))))))) (AllL.cons_ rfl (AllL.cons_ rfl (AllL.cons_ rfl (AllL.cons_ rfl (AllL.cons_ rfl (AllL.cons_ rfl trivial)))))) (AllL.cons_ FK (AllL.cons_ FK trivial)) ?_
     refine At.famDrop k1 (AllL.cons_ rfl (AllL.cons_ rfl (AllL.cons_ rfl (AllL.cons_ rfl (AllL.cons_ rfl (AllL.cons_ rfl trivial)))))) (AllL.cons_ rfl trivial) ?_
     have hsp : pre ++ ls = (pre ++ ls.take k1) ++ ls.drop k1 := by rw [List.append_assoc, List.take_append_drop]
     have hn4 : ls.length - k1 = (ls.drop k1).length := by rw [List.length_drop]
     have hr4 : c3 - ls.length = (c3 - k1) - (ls.drop k1).length := by rw [List.length_drop]; omega
     rw [hsp, hr4, hn4]
     have hp4 : (pre ++ ls.take k1).length = pre.length + k1 := by rw [List.length_append, List.length_take]; omega
     have hd4 : (ls.drop k1).length = ls.length - k1 := List.length_drop
     have hls4 : ∀ e ∈ ls.drop k1, e.ok := fun e he => hls e (List.mem_of_mem_drop he)
     have hl34 : ∀ e ∈ ls.drop k1, e.l.length = 3 := fun e he => hl3 e (List.mem_of_mem_drop he)
     have hA4 : 0 < c3 - k1 → cut A3 k1 c3 1 = some ⟨b3, (pre ++ ls.take k1).length, none⟩ := fun h => by rw [hp4]; exact cut_addr1 (hA3 (by omega)) (by omega)
     generalize cut A3 k1 c3 1 = A4 at hA4 ⊢
     generalize ls.drop k1 = l4 at hn4 hr4 hd4 hls4 hl34 ⊢
     generalize pre ++ ls.take k1 = pre4 at hA4 hp4 ⊢
     have hc4 : l4.length ≤ c3 - k1 := by omega
     obtain ⟨c4, hc4e⟩ : ∃ c4, c4 = c3 - k1 := ⟨_, rfl⟩
     rw [← hc4e] at hA4 hc4 ⊢
     refine At.p (some 9) (P_assign rfl rfl) ?_
     refine At.nil ?_
     refine At.next ?_
     refine At.seq ?_
     refine At.seq ?_
     refine At.region ?_
     refine At.p (some 64) (P_move rfl rfl) ?_
     refine At.p (some 65) (P_move rfl rfl) ?_
     refine At.s (S_callRF (some 66) [(100, _), (101, _), (102, _)] ([(104, Row.mk false b3 pre4.length 0 (l4.map BG.v) 0)] ++ famV 100001 l4) [100, 101, 102, 103] 100000 (vs := [_, _]) rfl en30 rfl (ON rfl rfl (ON rfl rfl (ON rfl rfl O0))) (by simp) (viewsFO (VN (by simp) rfl (View.sub (j := pre4.length) (m := l4.length) (Nat.zero_add _).symm (by rw [List.drop_left, List.take_length])) V0) FK2 hls4 ⟨rfl, rfl, rfl⟩) (by simp) ⟨rfl, rfl, rfl, rfl⟩ (Con.famVO (c_Compact (bD := bD) (bS := bS) (cD := n) (nD := n) (rD := 0) (S := S) (wr := wr) (bJ := bJ) (ar := ar) (nj := es.length) (cj := c2) (gen := g) (Aj := A2) (uj := uL es) (ks := l4) (Ak := A4) (ck := c4) (bk := b3) (qk := pre4.length) hJ.len (by omega) (by omega) (by omega) (by omega) (by omega) har (fun h => hA4 (by omega)) (okV_of hls4) (len3' hl34) (by omega) (by omega) hJ.sl (by omega))) (by rintro _ _ ⟨_, _, _, _, _, _, _, _, _, _, _, rfl⟩; simp) ?_)
     rintro _ _ ⟨es4, A4j, b4j, c4j, S4, hA4j, hc4j, hes4, hm4, hJ4, rfl, rfl⟩
     rw [sets_famG rfl]
     have he4 : es4.length = l4.length := by have := congrArg List.length hm4; simpa using this
     rw [← hm4] at hJ4
     refine At.p (some 67) (P_cmp rfl rfl rfl rfl rfl rfl) ?_
     refine At.nil ?_
     refine At.next ?_
     refine At.cond rfl (fun h67 => by exact absurd h67 (by decide)) (fun h67 => ?_)
     have e67 : 0 = 0 := bne_eq_false_iff_eq.1 h67
     refine At.skip ?_
     refine At.next ?_
     refine At.region ?_
     refine At.p (some 68) (P_move rfl rfl) ?_
     refine At.p (some 69) (P_move rfl rfl) ?_
     refine At.s (S_callR (some 70) [(100, _), (101, _), (102, _), (103, _)] [(52, _)] [100, 101, 102, 103, 105] (vs := [_, _]) rfl en29 rfl (ON rfl rfl (ON rfl rfl (ON rfl rfl (ON rfl rfl O0)))) (by simp) (VN (by simp) rfl View.all V0) (by simp) (c_AppY (bD := bD) (bS := bS) (cD := n) (nD := n) (rD := 0) (S := S4) (wr := (wr + (((n - 2) / 2 : Nat) : Int) + 1)) (bJ := bJ) (ar := (1 - ar)) (cj := c4j) (gen := (g + 1#64)) (es := es4) (Aj := A4j) (e := [(BitVec.ofInt 8 (i : Int)), (BitVec.ofInt 8 ((i : Int) / 2 ^ 8)), 1#8]) (Ae := (some ⟨b52, 0, none⟩)) (ce := 3) (be := b52) (bj := b4j) hJ4.len (by omega) (by omega) (by omega) (by omega) (by omega) (by omega) hA4j (by omega) rfl (by simp) (by simp) (by simp) (by omega)) (by rintro _ _ ⟨A9, b9, c9, A6, b6, c6, h9a, h9b, h6, rfl, rfl⟩; rfl) ?_)
     rintro _ _ ⟨A9, b9, c9, A6, b6, c6, h9a, h9b, h6, rfl, rfl⟩
     refine At.toM [(0, iV size), (1, iV cnt), (5, ptr bD 0), (7, ptr bJ 0), (9, .slice A4 l4.length c4), (10, iV (i : Int)), (11, .slice (some ⟨b52, 0, none⟩) 3 3), (12, iV 5), (63, .slice A4 l4.length c4), (64, ptr bJ 0), (65, .slice A4 l4.length c4), (66, iV 0), (67, .bool (0 != 0)), (68, ptr bJ 0), (69, .slice (some ⟨b52, 0, none⟩) 3 3), (70, iV 0)] [(105, ⟨true, b6, 0, 5, ([(BitVec.ofInt 8 (i : Int)), (BitVec.ofInt 8 ((i : Int) / 2 ^ 8)), 1#8]).map u8V, c6 - ([(BitVec.ofInt 8 (i : Int)), (BitVec.ofInt 8 ((i : Int) / 2 ^ 8)), 1#8]).length⟩), (52, ⟨true, b52, 0, 5, ([(BitVec.ofInt 8 (i : Int)), (BitVec.ofInt 8 ((i : Int) / 2 ^ 8)), 1#8]).map u8V, 0⟩), (100, dH true bD bS n n ((wr + (((n - 2) / 2 : Nat) : Int) + 1) + 1)), (101, rowS true bS (splice S4 ((fstS n (1 - ar) + es4.length) * 64) (secB (g + 1#64) es4.length [(BitVec.ofInt 8 (i : Int)), (BitVec.ofInt 8 ((i : Int) / 2 ^ 8)), 1#8])) 0), (102, ⟨true, bJ, 0, 82, [ptr bD 0, u64V (g + 1#64), iV ((1 - ar : Nat) : Int), .slice A9 ((es4 ++ [(bG A6 b6 c6 [(BitVec.ofInt 8 (i : Int)), (BitVec.ofInt 8 ((i : Int) / 2 ^ 8)), 1#8])]).length) c9, iV (uL (es4 ++ [(bG A6 b6 c6 [(BitVec.ofInt 8 (i : Int)), (BitVec.ofInt 8 ((i : Int) / 2 ^ 8)), 1#8])])), .bool false], 0⟩), (103, ⟨true, b9, 0, 27, ((es4 ++ [(bG A6 b6 c6 [(BitVec.ofInt 8 (i : Int)), (BitVec.ofInt 8 ((i : Int) / 2 ^ 8)), 1#8])])).map BG.v, c9 - ((es4 ++ [(bG A6 b6 c6 [(BitVec.ofInt 8 (i : Int)), (BitVec.ofInt 8 ((i : Int) / 2 ^ 8)), 1#8])])).length⟩), (104, ⟨true, b3, 0, 27, ((pre4 ++ l4)).map BG.v, c4 - l4.length⟩)] [famG 100000 5 es4, famG 100001 5 l4] (AllL.cons_ rfl (AllL.cons_ rfl (AllL.cons_ rfl (AllL.cons_ rfl (AllL.cons_ rfl (AllL.cons_ rfl (AllL.cons_ rfl (AllL.cons_ rfl (AllL.cons_ rfl (AllL.cons_ rfl (AllL.cons_ rfl (AllL.cons_ rfl (AllL.cons_ rfl (AllL.cons_ rfl (AllL.cons_ rfl (AllL.cons_ rfl trivial)))))))))))))))) (AllL.cons_ rfl (AllL.cons_ rfl (AllL.cons_ rfl (AllL.cons_ rfl (AllL.cons_ rfl (AllL.cons_ rfl (AllL.cons_ rfl trivial))))))) (AllL.cons_ FK (AllL.cons_ FK trivial)) ?_
     refine At.famPushG (bG A6 b6 c6 [(BitVec.ofInt 8 (i : Int)), (BitVec.ofInt 8 ((i : Int) / 2 ^ 8)), 1#8]) (AllL.cons_ rfl (AllL.cons_ rfl (AllL.cons_ rfl (AllL.cons_ rfl (AllL.cons_ rfl (AllL.cons_ rfl trivial)))))) rfl (AllL.cons_ rfl trivial) ?_
     refine At.p (some 12) (P_assign rfl rfl) ?_
     refine At.nil ?_
     refine At.next ?_
     refine At.toM [(0, _), (1, _), (5, _), (7, _), (9, _), (10, _), (11, _), (12, _)] [(52, _), (100, _), (101, _), (102, _), (103, _), (104, _)] [famG 100000 5 (es4 ++ [(bG A6 b6 c6 [(BitVec.ofInt 8 (i : Int)), (BitVec.ofInt 8 ((i : Int) / 2 ^ 8)), 1#8])]), famG 100001 5 l4] (AllL.cons_ (rfl) (AllL.cons_ (rfl) (AllL.cons_ (rfl) (AllL.cons_ (rfl) (AllL.cons_ (rfl) (AllL.cons_ (rfl) (AllL.cons_ (rfl) (AllL.cons_ (rfl) trivial)))))))) (AllL.cons_ (rfl) (AllL.cons_ (rfl) (AllL.cons_ (rfl) (AllL.cons_ (rfl) (AllL.cons_ (rfl) (AllL.cons_ (rfl) trivial)))))) (AllL.cons_ FK (AllL.cons_ FK trivial)) ?_
     exact hKj2 _ _ ⟨(splice S4 ((fstS n (1 - ar) + es4.length) * 64) (secB (g + 1#64) es4.length [(BitVec.ofInt 8 (i : Int)), (BitVec.ofInt 8 ((i : Int) / 2 ^ 8)), 1#8])), (g + 1#64), (1 - ar), (wr + (((n - 2) / 2 : Nat) : Int) + 1 + 1), (es4 ++ [(bG A6 b6 c6 [(BitVec.ofInt 8 (i : Int)), (BitVec.ofInt 8 ((i : Int) / 2 ^ 8)), 1#8])]), A9, b9, c9, pre4, l4, A4, c4, rfl, rfl, (hJ4.pushG (by omega) (by omega) (by omega) rfl), (by omega), (by rw [gen_succ (by omega)]; omega), (by omega), h9a, h9b, (BG.okP hes4 h6), hA4, hc4, hls4, hl34, (by rw [List.map_append, hm4]; rfl)⟩
    ·
     rintro fr H ⟨S3, g3, ar3, wr3, es3, A5, b5, c5, pre3, ls3, A6, c6, rfl, rfl, hJ3, har3, hg3, hw3, hA5, hc5, hes3, hA6, hc6, hls3, hl33, hm3⟩
     have hel3 : es3.length = ls3.length + 1 := by have := congrArg List.length hm3; simpa using this
     have hel32 : es3.length ≤ (n - 2) / 2 := by have := hJ3.st.1; rwa [List.length_map] at this
     have hJl3 := hJ3.len
     refine At.seq ?_
     refine At.seq ?_
     refine At.region ?_
     refine At.p (some 71) (P_move rfl rfl) ?_
     refine At.p (some 72) (P_cmp rfl rfl rfl rfl rfl rfl) ?_
     refine At.nil ?_
     refine At.next ?_
     refine At.cond rfl (fun h72 => by exact absurd h72 (by decide)) (fun h72 => ?_)
     have e72 : 0 = 0 := bne_eq_false_iff_eq.1 h72
     refine At.skip ?_
     refine At.next ?_
     refine At.seq ?_
     refine At.region ?_
     refine At.p (some 73) (P_move rfl rfl) ?_
     refine At.p (some 74) (P_move rfl rfl) ?_
     refine At.s (S_buildSliceV (some 75) 75 (([(bG (some ⟨b52, 0, none⟩) b52 3 [(BitVec.ofInt 8 (i : Int)), (BitVec.ofInt 8 ((i : Int) / 2 ^ 8)), 1#8])]).map BG.v) rfl Try.underlying44 sz27 ze27 rfl rfl (by decide) (by decide) rfl rfl (fun b75 => ?_))
     -- L [(bG (some ⟨b52, 0, none⟩) b52 3 [(BitVec.ofInt 8 (i : Int)), (BitVec.ofInt 8 ((i : Int) / 2 ^ 8)), 1#8])] m 1
     refine At.s (S_appendD (some 76) 104 (f := BG.v) (pre := pre3) (l := ls3) (L := [(bG (some ⟨b52, 0, none⟩) b52 3 [(BitVec.ofInt 8 (i : Int)), (BitVec.ofInt 8 ((i : Int) / 2 ^ 8)), 1#8])]) (m := 1) rfl Try.underlying44 Try.underlying44 (.inr ⟨_, rfl⟩) sz27 by27 ze27 rfl rfl hA6 rfl rfl hc6 (Src.all (k := 75) (l := [(bG (some ⟨b52, 0, none⟩) b52 3 [(BitVec.ofInt 8 (i : Int)), (BitVec.ofInt 8 ((i : Int) / 2 ^ 8)), 1#8])]) rfl (fun _ => rfl) (fun _ => ⟨rfl, rfl, rfl⟩) LN) (by intro u hu; simp at hu; subst hu; rfl) (by omega) (by omega) ?_)
     intro A10 b10 c10 pre10 hA10 hc10
     refine At.toM [(0, iV size), (1, iV cnt), (5, ptr bD 0), (7, ptr bJ 0), (9, .slice A6 ls3.length c6), (10, iV (i : Int)), (11, .slice (some ⟨b52, 0, none⟩) 3 3), (12, iV 0), (71, iV 0), (72, .bool (0 != 0)), (73, .slice A6 ls3.length c6), (74, .slice (some ⟨b52, 0, none⟩) 3 3), (76, .slice A10 (ls3.length + 1) c10)] [(52, ⟨true, b52, 0, 5, ([(BitVec.ofInt 8 (i : Int)), (BitVec.ofInt 8 ((i : Int) / 2 ^ 8)), 1#8]).map u8V, 0⟩), (100, dH true bD bS n n wr3), (101, rowS true bS S3 0), (102, ⟨true, bJ, 0, 82, [ptr bD 0, u64V g3, iV (ar3 : Int), .slice A5 es3.length c5, iV (uL es3), .bool false], 0⟩), (103, ⟨true, b5, 0, 27, (es3).map BG.v, c5 - (es3).length⟩), (104, ⟨true, b10, 0, 27, ((pre10 ++ (ls3 ++ [(bG (some ⟨b52, 0, none⟩) b52 3 [(BitVec.ofInt 8 (i : Int)), (BitVec.ofInt 8 ((i : Int) / 2 ^ 8)), 1#8])]))).map BG.v, c10 - (ls3.length + 1)⟩)] [famG 100001 5 ls3, famG 100000 5 es3] (AllL.cons_ rfl (AllL.cons_ rfl (AllL.cons_ rfl (AllL.cons_ rfl (AllL.cons_ rfl (AllL.cons_ rfl (AllL.cons_ rfl (AllL.cons_ rfl (AllL.cons_ rfl (AllL.cons_ rfl (AllL.cons_ rfl (AllL.cons_ rfl (AllL.cons_ rfl trivial))))))))))))) (AllL.cons_ rfl (AllL.cons_ rfl (AllL.cons_ rfl (AllL.cons_ rfl (AllL.cons_ rfl (AllL.cons_ rfl trivial)))))) (AllL.cons_ FK (AllL.cons_ FK trivial)) ?_
     refine At.famPushG (bG (some ⟨b52, 0, none⟩) b52 3 [(BitVec.ofInt 8 (i : Int)), (BitVec.ofInt 8 ((i : Int) / 2 ^ 8)), 1#8]) (AllL.cons_ rfl (AllL.cons_ rfl (AllL.cons_ rfl (AllL.cons_ rfl (AllL.cons_ rfl trivial))))) rfl (AllL.cons_ rfl trivial) ?_
     refine At.p (some 9) (P_assign rfl rfl) ?_
     refine At.nil ?_
     refine At.next ?_
     refine At.seq ?_
     refine At.region ?_
     refine At.p (some 77) (P_move rfl rfl) ?_
     refine At.p (some 78) (P_rem_i rfl rfl rfl (by omega) (by first | decide | omega)) ?_
     refine At.p (some 79) (P_cmp rfl rfl rfl rfl rfl rfl) ?_
     refine At.nil ?_
     refine At.next ?_
     refine At.cond rfl (fun h79 => ?_) (fun h79 => ?_)
     · -- cond 79 t
      have e79 : ((i : Int) % 7) = 6 := eq_of_beq h79
      refine At.seq ?_
      refine At.region ?_
      refine At.p (some 81) (P_move rfl rfl) ?_
      refine At.s (S_callRF (some 82) [] [(100, _), (101, _)] [102, 103] 100000 (vs := [_]) rfl en31 rfl O0 (by simp) (VN (by simp) rfl View.all (VN (by simp) rfl View.all V0)) (by simp) ⟨rfl, rfl⟩ (c_Open (bD := bD) (bS := bS) (cD := n) (nD := n) (rD := 0) (S := S3) (wr := wr3) (ar := ar3) (gen := g3) (L := es3.map BG.l) hJ3.len (by omega) (by omega) (by omega) (by omega) (by omega) har3 hJ3.pk hJ3.st) (by rintro _ _ ⟨_, _, _, _, _, _, _, _, _, _, rfl⟩; simp) ?_)
      rintro _ _ ⟨bK, es5, A8, b8, c8, hA8, hc8, hes5, hm5, rfl, rfl⟩
      rw [sets_famG rfl]
      refine At.p (some 80) (P_move rfl rfl) ?_
      refine At.p (some 83) (P_extract rfl rfl rfl) ?_
      refine At.p (some 84) (P_extract rfl rfl rfl) ?_
      refine At.p (some 13) (P_assign rfl rfl) ?_
      refine At.p (some 14) (P_assign rfl rfl) ?_
      refine At.nil ?_
      refine At.next ?_
      refine At.seq ?_
      refine At.seq ?_
      refine At.region ?_
      refine At.p (some 85) (P_move rfl rfl) ?_
      refine At.p (some 86) (P_cmp rfl rfl rfl rfl rfl rfl) ?_
      refine At.nil ?_
      refine At.next ?_
      refine At.cond rfl (fun h86 => by exact absurd h86 (by decide)) (fun h86 => ?_)
      have e86 : 0 = 0 := bne_eq_false_iff_eq.1 h86
      refine At.skip ?_
      refine At.next ?_
      refine At.region ?_
      refine At.p (some 87) (P_move rfl rfl) ?_
      refine At.p (some 7) (P_assign rfl rfl) ?_
      refine At.nil ?_
      refine At.inb_n ?_
      refine At.next ?_
      refine At.region ?_
      refine At.p (some 45) (P_move rfl rfl) ?_
      refine At.p (some 46) (P_add_i rfl rfl rfl (by omega)) ?_
      refine At.p (some 10) (P_assign rfl rfl) ?_
      refine At.nil ?_
      refine At.next ?_
      refine At.toM [(0, _), (1, _), (5, _), (7, _), (9, .slice A10 (ls3 ++ [(bG (some ⟨b52, 0, none⟩) b52 3 [(BitVec.ofInt 8 (i : Int)), (BitVec.ofInt 8 ((i : Int) / 2 ^ 8)), 1#8])]).length c10), (10, iV ((i + 1 : Nat) : Int))] [(100, _), (101, _), (102, _), (103, _), (104, ⟨true, b10, 0, 27, ((pre10 ++ (ls3 ++ [(bG (some ⟨b52, 0, none⟩) b52 3 [(BitVec.ofInt 8 (i : Int)), (BitVec.ofInt 8 ((i : Int) / 2 ^ 8)), 1#8])]))).map BG.v, c10 - (ls3 ++ [(bG (some ⟨b52, 0, none⟩) b52 3 [(BitVec.ofInt 8 (i : Int)), (BitVec.ofInt 8 ((i : Int) / 2 ^ 8)), 1#8])]).length⟩)] [famG 100000 5 es5, famG 100001 5 (ls3 ++ [(bG (some ⟨b52, 0, none⟩) b52 3 [(BitVec.ofInt 8 (i : Int)), (BitVec.ofInt 8 ((i : Int) / 2 ^ 8)), 1#8])])] (AllL.cons_ (rfl) (AllL.cons_ (rfl) (AllL.cons_ (rfl) (AllL.cons_ (rfl) (AllL.cons_ ((by rw [List.length_append]; rfl)) (AllL.cons_ (rfl) trivial)))))) (AllL.cons_ (rfl) (AllL.cons_ (rfl) (AllL.cons_ (rfl) (AllL.cons_ (rfl) (AllL.cons_ ((by rw [List.length_append]; rfl)) trivial))))) (AllL.cons_ FK (AllL.cons_ FK trivial)) ?_
      exact hKc0 _ _ _ (by omega) ⟨(i + 1), S3, g3, ar3, wr3, bK, es5, A8, b8, c8, pre10, (ls3 ++ [(bG (some ⟨b52, 0, none⟩) b52 3 [(BitVec.ofInt 8 (i : Int)), (BitVec.ofInt 8 ((i : Int) / 2 ^ 8)), 1#8])]), A10, b10, c10, rfl, rfl, rfl, (by omega), (by first | (rw [hm5]; exact hJ3) | exact hJ3), har3, (by omega), (by omega), (by first | exact hA8 | exact hA5), (by first | exact hc8 | exact hc5), (by first | exact hes5 | exact hes3), hA10, (by simp only [List.length_append, List.length_singleton]; exact hc10), (BG.okP hls3 (bG_ok (fun _ => rfl) (by simp))), (push3 hl33 rfl), (by rw [List.map_append]; first | exact hm5.trans hm3 | exact hm3)⟩
     · -- cond 79 f
      have e79 : ((i : Int) % 7) ≠ 6 := beq_eq_false_iff_ne.1 h79
      refine At.skip ?_
      refine At.inb_n ?_
      refine At.next ?_
      refine At.region ?_
      refine At.p (some 45) (P_move rfl rfl) ?_
      refine At.p (some 46) (P_add_i rfl rfl rfl (by omega)) ?_
      refine At.p (some 10) (P_assign rfl rfl) ?_
      refine At.nil ?_
      refine At.next ?_
      refine At.toM [(0, _), (1, _), (5, _), (7, _), (9, .slice A10 (ls3 ++ [(bG (some ⟨b52, 0, none⟩) b52 3 [(BitVec.ofInt 8 (i : Int)), (BitVec.ofInt 8 ((i : Int) / 2 ^ 8)), 1#8])]).length c10), (10, iV ((i + 1 : Nat) : Int))] [(100, _), (101, _), (102, _), (103, _), (104, ⟨true, b10, 0, 27, ((pre10 ++ (ls3 ++ [(bG (some ⟨b52, 0, none⟩) b52 3 [(BitVec.ofInt 8 (i : Int)), (BitVec.ofInt 8 ((i : Int) / 2 ^ 8)), 1#8])]))).map BG.v, c10 - (ls3 ++ [(bG (some ⟨b52, 0, none⟩) b52 3 [(BitVec.ofInt 8 (i : Int)), (BitVec.ofInt 8 ((i : Int) / 2 ^ 8)), 1#8])]).length⟩)] [famG 100000 5 es3, famG 100001 5 (ls3 ++ [(bG (some ⟨b52, 0, none⟩) b52 3 [(BitVec.ofInt 8 (i : Int)), (BitVec.ofInt 8 ((i : Int) / 2 ^ 8)), 1#8])])] (AllL.cons_ (rfl) (AllL.cons_ (rfl) (AllL.cons_ (rfl) (AllL.cons_ (rfl) (AllL.cons_ ((by rw [List.length_append]; rfl)) (AllL.cons_ (rfl) trivial)))))) (AllL.cons_ (rfl) (AllL.cons_ (rfl) (AllL.cons_ (rfl) (AllL.cons_ (rfl) (AllL.cons_ ((by rw [List.length_append]; rfl)) trivial))))) (AllL.cons_ FK (AllL.cons_ FK trivial)) ?_
      exact hKc0 _ _ _ (by omega) ⟨(i + 1), S3, g3, ar3, wr3, bJ, es3, A5, b5, c5, pre10, (ls3 ++ [(bG (some ⟨b52, 0, none⟩) b52 3 [(BitVec.ofInt 8 (i : Int)), (BitVec.ofInt 8 ((i : Int) / 2 ^ 8)), 1#8])]), A10, b10, c10, rfl, rfl, rfl, (by omega), (by first | (rw [hm5]; exact hJ3) | exact hJ3), har3, (by omega), (by omega), (by first | exact hA8 | exact hA5), (by first | exact hc8 | exact hc5), (by first | exact hes5 | exact hes3), hA10, (by simp only [List.length_append, List.length_singleton]; exact hc10), (BG.okP hls3 (bG_ok (fun _ => rfl) (by simp))), (push3 hl33 rfl), (by rw [List.map_append]; first | exact hm5.trans hm3 | exact hm3)⟩
  · -- cond 44 f
   have e44 : ¬ (i : Int) < (k43 : Int) := of_decide_eq_false h44
   refine At.exit ?_
   refine At.thn_e ?_
   refine At.thn_e ?_
   refine At.inb_hit ?_
   refine At.next ?_
   refine At.seq ?_
   refine At.region ?_
   refine At.p (some 88) (P_move rfl rfl) ?_
   refine At.s (S_callRF (some 89) [] ([(102, Row.mk false bJ 0 82 [ptr bD 0, u64V g, iV (ar : Int), .slice A2 es.length c2, iV (uL es), .bool false] 0), (103, Row.mk false b2 0 0 (es.map BG.v) 0)] ++ famV 100000 es) [106] 100002 (vs := [_]) rfl en33 rfl O0 (by simp) (viewsF (VN (by simp) rfl View.all (VN (by simp) rfl View.all V0)) FK2 hes) (by simp) rfl (Con.famV (c_EntG (bJ := bJ) (bD := bD) (cj := c2) (bj := b2) (ar := (ar : Int)) (uj := uL es) (gen := g) (Aj := A2) (ks := es) (fun h => hA2 (by omega)) (okV_of hes) (len3 hm hl3) (by omega))) (by rintro _ _ ⟨_, _, _, _, _, _, _, _, _, rfl⟩; simp) ?_)
   rintro _ _ ⟨cs, A7, b7, c7, hA7, hc7, hcs, hmc, rfl, rfl⟩
   rw [sets_famG rfl]
   have hcl : cs.length = es.length := by have := congrArg List.length hmc; simpa using this
   refine At.p (some 90) (P_move rfl rfl) ?_
   refine At.s (S_callV (some 91) ([(106, Row.mk false b7 0 0 (cs.map BG.v) 0), (104, Row.mk false b3 pre.length 0 (ls.map BG.v) 0)] ++ famV 100002 cs ++ famV 100001 ls) [] (vs := [_, _]) rfl en32 rfl (viewsF (viewsF (VN (by simp) rfl View.all (VN (by simp) rfl (View.sub (j := pre.length) (m := ls.length) (Nat.zero_add _).symm (by rw [List.drop_left, List.take_length])) V0)) FK2 hcs) FK2 hls) (by simp) (Con.famV2 (c_rSame (es1 := cs) (Aa := A7) (na := cs.length) (ca := c7) (ba := b7) (qa := 0) (es2 := ls) (Ab := A3) (nb := ls.length) (cb := c3) (bb := b3) (qb := pre.length) rfl (fun h => hA7 (by omega)) rfl (fun h => hA3 (by omega)) (okV_of hcs) (okV_of hls) (hmc.trans hm) (by omega))) (by rintro _ _ ⟨rfl, rfl⟩; rfl) ?_)
   rintro _ _ ⟨rfl, rfl⟩
   refine At.p (some 4) (P_assign rfl rfl) ?_
   refine At.nil ?_
   refine At.next ?_
   refine At.ret ?_
   refine At.give (.inl rfl) [] (rows' := []) (vs := [_]) rfl ⟨rfl, trivial⟩ rfl (by simp) (by simp) ⟨rfl, rfl⟩


end Go.Proofs.Ytdingfinclcbgaa

