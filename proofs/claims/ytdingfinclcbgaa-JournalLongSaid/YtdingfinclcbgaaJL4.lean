import Derived.Test.YtdingfinclcbgaaJL3
namespace Go.Proofs.Ytdingfinclcbgaa
set_option maxRecDepth 20000
set_option linter.unusedVariables false
set_option linter.unusedSimpArgs false
open Go.SE Go.RowKit
theorem P_cast {P : Program} {fr : Fr} {o : Oper} {v v' : Value} (h : v = v') (q : PStep P fr o v) : PStep P fr o v' := h ▸ q
/-- An element that can be read where it lies. -/
def okV (e : BG) : Prop := (0 < e.l.length → e.A = some ⟨e.b, e.q, none⟩) ∧ e.l.length ≤ e.c
theorem okV_of {es : List BG} (h : ∀ e ∈ es, e.ok) : ∀ e ∈ es, okV e := fun e he => ⟨fun h0 => BG.adr (h e he) h0, BG.le (h e he)⟩
theorem Q_strV {P : Program} {E : Env} {fr : Fr} {H : Hp} {o : Oper} {x : Operand} {s d e : TypeId} (b i : Nat) {es : List BG} (hF : FamOk H (famR b es)) (hi : i < es.length) (hes : ∀ e ∈ es, okV e) (ho : o.op = .convert s d x) (hs : P.underlying s = some (.slice e)) (he : P.underlying e = some (.int .u8)) (hd : P.underlying d = some .string)
  (hx : fr.ev x = some (es.getD i default).v) : QStep P E fr H o (strV (es.getD i default).l) := by
 have hok := hes _ (getDG_mem hi)
 refine Q_strN (l := (es.getD i default).l) (n := (es.getD i default).l.length) (k := lf b i) (j := 0) rfl ho hs he hd hx (fun h => hok.1 h) (fun _ => ⟨hF i (dlt_iff.2 hi), rfl, Nat.add_zero _⟩) ?_
 show (((es.getD i default).l.map u8V).drop 0).take _ = _
 rw [List.drop_zero, List.take_of_length_le (by simp)]
theorem getD_same {es ls : List BG} (h : es.map BG.l = ls.map BG.l) (k : Nat) : (es.getD k default).l = (ls.getD k default).l := by rw [← getD_l, ← getD_l, h]

attribute [local irreducible] sumS
set_option maxHeartbeats 2000000 in
theorem c_Compact {bD bS cD nD rD : Nat} {S : List (BitVec 8)} {wr : Int} {bJ ar nj cj : Nat} {gen : BitVec 64} {Aj : Option Addr} {uj : Int} {ks : List BG} {Ak : Option Addr} {ck bk qk : Nat} (hSl : S.length = nD * 64) (hn : nD ≤ 512) (hc : nD ≤ cD) (hw : 0 ≤ wr) (hw2 : wr ≤ 4611686018427380000) (h4 : 4 ≤ nD) (har : ar ≤ 1) (hAk : 0 < ks.length → Ak = some ⟨bk, qk, none⟩) (hks : ∀ e ∈ ks, okV e) (hkl : ∀ e ∈ ks, 1 ≤ e.l.length ∧ e.l.length ≤ 14) (hkr : ks.length ≤ (nD - 2) / 2) (hg : gen.toNat < 2 ^ 63) (hsl : secs S (gen.toNat % 2) = slotB gen ar) (hw3 : wr ≤ 4611686018427370000) :
  Con Try.prog 30 [ptr bJ 0, .slice Ak ks.length ck] ([dH true bD bS cD nD wr, rowS true bS S rD, ⟨true, bJ, 0, 82, [ptr bD 0, u64V gen, iV (ar : Int), .slice Aj nj cj, iV uj, .bool false], 0⟩, ⟨false, bk, qk, 0, (ks).map BG.v, 0⟩] ++ ks.map BG.vrow) (fun v rs => ∃ (es : List BG) (A' : Option Addr) (b' c' : Nat) (S' : List (BitVec 8)), (0 < c' → A' = some ⟨b', 0, none⟩) ∧ es.length ≤ c' ∧ (∀ e ∈ es, e.ok) ∧ es.map BG.l = ks.map BG.l ∧ JInv S' nD (1 - ar) (gen + 1#64) (ks.map BG.l) ∧ v = iV 0 ∧ rs = [dH true bD bS cD nD (wr + (((nD - 2) / 2 : Nat) : Int) + 1), rowS true bS S' rD, ⟨true, bJ, 0, 82, [ptr bD 0, u64V (gen + 1#64), iV ((1 - ar : Nat) : Int), .slice A' es.length c', iV (uL es), .bool false], 0⟩, ⟨true, b', 0, 27, es.map BG.v, c' - es.length⟩] ++ es.map (BG.row 5)) := by
 refine Con.enterF 100001 Try.func30 Try.ntmps30 (Nat.le_of_ble_eq_true rfl) rfl fun w => ?_
 refine At.seq ?_
 refine At.region ?_
 refine At.p (some 4) (P_assign rfl rfl) ?_
 refine At.nil ?_
 refine At.next ?_
 refine At.seq ?_
 refine At.seq ?_
 refine At.region ?_
 refine At.p (some 13) (P_move rfl rfl) ?_
 refine At.p (some 14) (P_move rfl rfl) ?_
 refine At.s (S_callV (some 15) [(0, _), (1, _), (2, _), (3, _)] [] (vs := [_, _, _]) rfl en46 rfl (VN (by simp) rfl View.all (VN (by simp) rfl View.all (VN (by simp) rfl View.all (VN (by simp) rfl View.all V0)))) (by simp) (c_mayG (bD := bD) (bS := bS) (cD := cD) (nD := nD) (rD := rD) (S := S) (wr := wr) (bJ := bJ) (gen := gen) (ar := ar) (Aj := Aj) (nj := nj) (cj := cj) (uj := uj) (es := ks) (Al := Ak) (nl := ks.length) (cl := ck) (bl := bk) (ql := qk) (u := 0) (by omega) (by omega) (by omega) (by omega) (by omega) (by omega) LN hAk (fun e he => ⟨(hkl e he).1, Nat.le_trans (hkl e he).2 (by decide)⟩) (by omega) (by omega) (by omega)) (by rintro _ _ ⟨rfl, rfl⟩; rfl) ?_)
 rintro _ _ ⟨rfl, rfl⟩
 refine At.p (some 5) (P_assign rfl rfl) ?_
 refine At.nil ?_
 refine At.next ?_
 refine At.seq ?_
 refine At.region ?_
 refine At.p (some 16) (P_move rfl rfl) ?_
 refine At.p (some 17) (P_cmp rfl rfl rfl rfl rfl rfl) ?_
 refine At.nil ?_
 refine At.next ?_
 refine At.cond rfl (fun h17 => by exact absurd h17 (by decide)) (fun h17 => ?_)
 have e17 : 0 = 0 := bne_eq_false_iff_eq.1 h17
 refine At.skip ?_
 refine At.next ?_
 refine At.seq ?_
 refine At.draws 14 [] [.q false [0, 1, 2, 3, 4, 5, 6, 7, 8, 9, 10, 11, 12, 13]] (by kernel_rfl) (by kernel_rfl) ?_
 refine At.wp (some 19) (P_move rfl rfl) ?_
 refine At.wp (some 20) (P_nilCheck rfl rfl) ?_
 refine At.wp (some 21) (P_fieldAddr0 (off := 0) rfl Try.underlying82 rfl sz23 rfl rfl) ?_
 refine At.wq (some 22) (Q_loadO (k := 2) rfl rfl Try.underlying23 rfl rfl rfl) ?_
 refine At.wp (some 23) (P_move rfl rfl) ?_
 refine At.wp (some 24) (P_nilCheck rfl rfl) ?_
 refine At.wp (some 25) (P_fieldAddr0 (off := 1) rfl Try.underlying82 rfl sz22 rfl rfl) ?_
 refine At.wq (some 26) (Q_loadO (k := 2) rfl rfl Try.underlying22 rfl rfl rfl) ?_
 refine At.wp (some 27) (P_add_w UK.u64 (b := 1#64) rfl rfl rfl) ?_
 refine At.wp (some 28) (P_move rfl rfl) ?_
 refine At.wp (some 29) (P_nilCheck rfl rfl) ?_
 refine At.wp (some 30) (P_fieldAddr0 (off := 2) rfl Try.underlying82 rfl sz3 rfl rfl) ?_
 refine At.wq (some 31) (Q_loadO (k := 2) rfl rfl Try.underlying3 rfl rfl rfl) ?_
 refine At.wp (some 32) (P_cast (congrArg iV (show (1 : Int) - (ar : Int) = ((1 - ar : Nat) : Int) by omega)) (P_sub_i (a := 1) (b := (ar : Int)) rfl rfl rfl (by omega))) ?_
 refine At.wqn ?_
 refine At.wt rfl ?_
 refine At.p (some 33) (P_build_struct (parts := _) (vs := [(0, _), (1, _), (2, _)]) rfl Try.underlying82 ze82 pl82 rfl rfl) ?_
 refine At.s (S_box (some 34) 34 (zs := [ptr bD 0, u64V (gen + 1#64), iV ((1 - ar : Nat) : Int), .slice none 0 0, iV 0, .bool false]) rfl rfl rfl (fun b34 => ?_))
 refine At.empty 54 0 27 ?_
 refine At.toM [(0, ptr bJ 0), (1, .slice Ak ks.length ck), (4, iV 0), (5, iV 0), (13, ptr bJ 0), (14, .slice Ak ks.length ck), (15, iV 0), (16, iV 0), (17, .bool (0 != 0)), (19, ptr bJ 0), (20, ptr bJ 0), (21, ptr bJ 0), (22, ptr bD 0), (23, ptr bJ 0), (24, ptr bJ 0), (25, ptr bJ 1), (26, u64V gen), (27, u64V (gen + 1#64)), (28, ptr bJ 0), (29, ptr bJ 0), (30, ptr bJ 2), (31, iV (ar : Int)), (32, iV ((1 - ar : Nat) : Int)), (33, .agg ([ptr bD 0, u64V (gen + 1#64), iV ((1 - ar : Nat) : Int), .slice none 0 0, iV 0, .bool false]).toArray), (34, ptr b34 0)] [(0, dH true bD bS cD nD wr), (1, rowS true bS S rD), (2, ⟨true, bJ, 0, 82, [ptr bD 0, u64V gen, iV (ar : Int), .slice Aj nj cj, iV uj, .bool false], 0⟩), (3, ⟨false, bk, qk, 0, (ks).map BG.v, 0⟩), (34, ⟨true, b34, 0, 82, [ptr bD 0, u64V (gen + 1#64), iV ((1 - ar : Nat) : Int), .slice none 0 0, iV 0, .bool false], 0⟩), (54, ⟨true, 0, 0, 27, (([] : List BG)).map BG.v, 0⟩)] [famR 100001 ks] (AllL.cons_ rfl (AllL.cons_ rfl (AllL.cons_ rfl (AllL.cons_ rfl (AllL.cons_ rfl (AllL.cons_ rfl (AllL.cons_ rfl (AllL.cons_ rfl (AllL.cons_ rfl (AllL.cons_ rfl (AllL.cons_ rfl (AllL.cons_ rfl (AllL.cons_ rfl (AllL.cons_ rfl (AllL.cons_ rfl (AllL.cons_ rfl (AllL.cons_ rfl (AllL.cons_ rfl (AllL.cons_ rfl (AllL.cons_ rfl (AllL.cons_ rfl (AllL.cons_ rfl (AllL.cons_ rfl (AllL.cons_ rfl (AllL.cons_ rfl trivial))))))))))))))))))))))))) (AllL.cons_ rfl (AllL.cons_ rfl (AllL.cons_ rfl (AllL.cons_ rfl (AllL.cons_ rfl (AllL.cons_ rfl trivial)))))) (AllL.cons_ FK trivial) ?_
 refine At.famNew 100000 (fun i => (([] : List BG).getD i default).row 5) ?_
 refine At.p (some 6) (P_assign rfl rfl) ?_
 refine At.nil ?_
 refine At.next ?_
 refine At.seq ?_
 refine At.seq ?_
 refine At.region ?_
 refine At.p (some 35) (P_move rfl rfl) ?_
 refine At.p (some 36) (P_len_sl rfl rfl ⟨_, Try.underlying44⟩ rfl) ?_
 refine At.p (some 37) (P_move rfl rfl) ?_
 refine At.nil ?_
 refine At.next ?_
 refine At.block ?_
 refine At.loopx (I := fun m fr H => ∃ (es : List BG) (A2 : Option Addr) (b2 : Nat) (c2 : Nat) (S2 : List (BitVec 8)), m = ks.length - es.length ∧ fr = frOf [(0, ptr bJ 0), (1, .slice Ak ks.length ck), (5, iV 0), (6, ptr b34 0), (13, ptr bJ 0), (14, .slice Ak ks.length ck), (15, iV 0), (16, iV 0), (17, .bool (0 != 0)), (19, ptr bJ 0), (20, ptr bJ 0), (21, ptr bJ 0), (22, ptr bD 0), (23, ptr bJ 0), (24, ptr bJ 0), (25, ptr bJ 1), (26, u64V gen), (27, u64V (gen + 1#64)), (28, ptr bJ 0), (29, ptr bJ 0), (30, ptr bJ 2), (31, iV (ar : Int)), (32, iV ((1 - ar : Nat) : Int)), (33, .agg ([ptr bD 0, u64V (gen + 1#64), iV ((1 - ar : Nat) : Int), .slice none 0 0, iV 0, .bool false]).toArray), (34, ptr b34 0), (35, .slice Ak ks.length ck), (36, iV (ks.length : Int)), (37, iV (es.length : Int))] ∧ H = famsOf (hOf [(0, dH true bD bS cD nD (wr + uL es)), (1, rowS true bS S2 rD), (2, ⟨true, bJ, 0, 82, [ptr bD 0, u64V gen, iV (ar : Int), .slice Aj nj cj, iV uj, .bool false], 0⟩), (3, ⟨false, bk, qk, 0, (ks).map BG.v, 0⟩), (34, ⟨true, b34, 0, 82, [ptr bD 0, u64V (gen + 1#64), iV ((1 - ar : Nat) : Int), .slice A2 es.length c2, iV (uL es), .bool false], 0⟩), (54, ⟨true, b2, 0, 27, (es).map BG.v, c2 - (es).length⟩)]) [famG 100000 5 es, famR 100001 ks] ∧ (0 < c2 → A2 = some ⟨b2, 0, none⟩) ∧ (es.length ≤ c2) ∧ (∀ e ∈ es, e.ok) ∧ (es.map BG.l = (ks.map BG.l).take es.length) ∧ (es.length ≤ ks.length) ∧ (PutA S S2 nD (1 - ar) (gen + 1#64) (es.map BG.l))) ?_ ?_
 ·
  intro Kc0 hKc0
  refine At.toM [(0, _), (1, _), (5, _), (6, _), (13, _), (14, _), (15, _), (16, _), (17, _), (19, _), (20, _), (21, _), (22, _), (23, _), (24, _), (25, _), (26, _), (27, _), (28, _), (29, _), (30, _), (31, _), (32, _), (33, _), (34, _), (35, _), (36, _), (37, _)] [(0, dH true bD bS cD nD (wr + uL ([] : List BG))), (1, _), (2, _), (3, _), (34, _), (54, _)] [famG 100000 5 ([] : List BG), famR 100001 ks] (AllL.cons_ (rfl) (AllL.cons_ (rfl) (AllL.cons_ (rfl) (AllL.cons_ (rfl) (AllL.cons_ (rfl) (AllL.cons_ (rfl) (AllL.cons_ (rfl) (AllL.cons_ (rfl) (AllL.cons_ (rfl) (AllL.cons_ (rfl) (AllL.cons_ (rfl) (AllL.cons_ (rfl) (AllL.cons_ (rfl) (AllL.cons_ (rfl) (AllL.cons_ (rfl) (AllL.cons_ (rfl) (AllL.cons_ (rfl) (AllL.cons_ (rfl) (AllL.cons_ (rfl) (AllL.cons_ (rfl) (AllL.cons_ (rfl) (AllL.cons_ (rfl) (AllL.cons_ (rfl) (AllL.cons_ (rfl) (AllL.cons_ (rfl) (AllL.cons_ (rfl) (AllL.cons_ (rfl) (AllL.cons_ (rfl) trivial)))))))))))))))))))))))))))) (AllL.cons_ ((by exact congrArg (fun z : Int => some (dH true bD bS cD nD z)) (by show wr = wr + 0; omega))) (AllL.cons_ (rfl) (AllL.cons_ (rfl) (AllL.cons_ (rfl) (AllL.cons_ (rfl) (AllL.cons_ (rfl) trivial)))))) (AllL.cons_ FK (AllL.cons_ FK trivial)) ?_
  exact hKc0 _ _ _ ⟨([] : List BG), none, 0, 0, S, rfl, rfl, rfl, (fun h => absurd h (Nat.lt_irrefl 0)), (Nat.le_refl _), (fun e he => nomatch he), rfl, (Nat.zero_le _), (PutA.nil hSl)⟩
 ·
  rintro m fr H ⟨es, A2, b2, c2, S2, rfl, rfl, rfl, hA2, hc2, hes, hm, hk, hP⟩ Kc0 hKc0
  have huL : uL es = (es.length : Int) := rfl
  have hSl2 := hP.len
  refine At.seq ?_
  refine At.region ?_
  refine At.p (some 38) (P_cmp rfl rfl rfl rfl rfl rfl) ?_
  refine At.nil ?_
  refine At.next ?_
  refine At.seq ?_
  refine At.cond rfl (fun h38 => ?_) (fun h38 => ?_)
  · -- cond 38 t
   have e38 : (es.length : Int) < (ks.length : Int) := of_decide_eq_true h38
   refine At.skip ?_
   refine At.next ?_
   refine At.seq ?_
   refine At.block ?_
   refine At.seq ?_
   have hil : es.length < ks.length := by omega
   have hxo := hks _ (getDG_mem hil)
   have hkx := hkl _ (getDG_mem hil)
   have hxle := hxo.2
   refine At.famSee 400 100001 ks es.length rfl FK2 ?_
   refine At.region ?_
   refine At.p (some 39) (P_indexAddr_sl1 (b := bk) (m := qk) (j := es.length) rfl Try.underlying44 sz27 rfl (hAk OG) rfl RO OG) ?_
   refine At.q (some 40) (Q_loadR (k := 3) (f := BG.v) (l := ks) (j := es.length) ((default : BG)) rfl rfl Try.underlying27 rfl rfl rfl OG) ?_
   refine At.p (some 8) (P_assign rfl rfl) ?_
   refine At.nil ?_
   refine At.next ?_
   refine At.seq ?_
   refine At.region ?_
   refine At.p (some 41) (P_move rfl rfl) ?_
   refine At.p (some 42) (P_move rfl rfl) ?_
   refine At.p (some 43) (P_move rfl rfl) ?_
   refine At.p (some 44) (P_nilCheck rfl rfl) ?_
   refine At.p (some 45) (P_fieldAddr0 (off := 2) rfl Try.underlying82 rfl sz3 rfl rfl) ?_
   refine At.q (some 46) (Q_loadO (k := 34) rfl rfl Try.underlying3 rfl rfl rfl) ?_
   refine At.s (S_callR (some 47) [(0, _), (1, _), (34, _), (54, _)] [(400, _)] [0, 1, 34, 54, 401] (vs := [_, _, _]) rfl en47 rfl (ON rfl rfl (ON rfl rfl (ON rfl rfl (ON rfl rfl O0)))) (by simp) (VN (by simp) rfl View.all V0) (by simp) (c_putG (bD := bD) (bS := bS) (cD := cD) (nD := nD) (rD := rD) (S := S2) (wr := (wr + uL es)) (bJ := b34) (gen := (gen + 1#64)) (ar := (1 - ar)) (cj := c2) (bj := b2) (Aj := A2) (es := es) (e := ((ks.getD es.length default).l)) (ne := ((ks.getD es.length default).l.length)) (Ae := ((ks.getD es.length default).A)) (ce := ((ks.getD es.length default).c)) (be := ((ks.getD es.length default).b)) (qe := ((ks.getD es.length default).q)) (by omega) (by omega) (by omega) (by omega) (by omega) (by omega) (by omega) (fun h => hA2 h) (by omega) LN (fun h => hxo.1 (by omega)) OG (by omega) (by omega) (by omega)) (by rintro _ _ ⟨A54, b54, c54, A401, b401, c401, g54a, g54b, g401, rfl, rfl⟩; rfl) ?_)
   rintro _ _ ⟨A54, b54, c54, A401, b401, c401, g54a, g54b, g401, rfl, rfl⟩
   refine At.p (some 9) (P_assign rfl rfl) ?_
   refine At.nil ?_
   refine At.next ?_
   refine At.seq ?_
   refine At.region ?_
   refine At.p (some 48) (P_move rfl rfl) ?_
   refine At.p (some 49) (P_cmp rfl rfl rfl rfl rfl rfl) ?_
   refine At.nil ?_
   refine At.next ?_
   refine At.cond rfl (fun h49 => by exact absurd h49 (by decide)) (fun h49 => ?_)
   have e49 : 0 = 0 := bne_eq_false_iff_eq.1 h49
   refine At.skip ?_
   refine At.inb_n ?_
   refine At.next ?_
   refine At.region ?_
   refine At.p (some 54) (P_add_i rfl rfl rfl (by omega)) ?_
   refine At.p (some 37) (P_move rfl rfl) ?_
   refine At.nil ?_
   refine At.next ?_
   refine At.toM [(0, ptr bJ 0), (1, .slice Ak ks.length ck), (5, iV 0), (6, ptr b34 0), (8, .slice ((ks.getD es.length default).A) ((ks.getD es.length default).l.length) ((ks.getD es.length default).c)), (9, iV 0), (13, ptr bJ 0), (14, .slice Ak ks.length ck), (15, iV 0), (16, iV 0), (17, .bool (0 != 0)), (19, ptr bJ 0), (20, ptr bJ 0), (21, ptr bJ 0), (22, ptr bD 0), (23, ptr bJ 0), (24, ptr bJ 0), (25, ptr bJ 1), (26, u64V gen), (27, u64V (gen + 1#64)), (28, ptr bJ 0), (29, ptr bJ 0), (30, ptr bJ 2), (31, iV (ar : Int)), (32, iV ((1 - ar : Nat) : Int)), (33, .agg ([ptr bD 0, u64V (gen + 1#64), iV ((1 - ar : Nat) : Int), .slice none 0 0, iV 0, .bool false]).toArray), (34, ptr b34 0), (35, .slice Ak ks.length ck), (36, iV (ks.length : Int)), (37, iV ((es.length : Int) + 1)), (38, .bool (decide ((es.length : Int) < (ks.length : Int)))), (39, ptr bk (qk + es.length)), (40, .slice ((ks.getD es.length default).A) ((ks.getD es.length default).l.length) ((ks.getD es.length default).c)), (41, ptr b34 0), (42, .slice ((ks.getD es.length default).A) ((ks.getD es.length default).l.length) ((ks.getD es.length default).c)), (43, ptr b34 0), (44, ptr b34 0), (45, ptr b34 2), (46, iV ((1 - ar : Nat) : Int)), (47, iV 0), (48, iV 0), (49, .bool (0 != 0)), (54, iV ((es.length : Int) + 1))] [(401, ⟨true, b401, 0, 5, (((ks.getD es.length default).l)).map u8V, c401 - (((ks.getD es.length default).l)).length⟩), (0, dH true bD bS cD nD (wr + uL es + 1)), (1, rowS true bS (splice S2 ((fstS nD (1 - ar) + es.length) * 64) (secB (gen + 1#64) es.length ((ks.getD es.length default).l))) rD), (2, ⟨true, bJ, 0, 82, [ptr bD 0, u64V gen, iV (ar : Int), .slice Aj nj cj, iV uj, .bool false], 0⟩), (3, ⟨false, bk, qk, 0, (ks).map BG.v, 0⟩), (34, ⟨true, b34, 0, 82, [ptr bD 0, u64V (gen + 1#64), iV ((1 - ar : Nat) : Int), .slice A54 ((es ++ [(bG A401 b401 c401 ((ks.getD es.length default).l))]).length) c54, iV (uL (es ++ [(bG A401 b401 c401 ((ks.getD es.length default).l))])), .bool false], 0⟩), (54, ⟨true, b54, 0, 27, ((es ++ [(bG A401 b401 c401 ((ks.getD es.length default).l))])).map BG.v, c54 - ((es ++ [(bG A401 b401 c401 ((ks.getD es.length default).l))])).length⟩), (400, pRow ((ks.getD es.length default).b) ((ks.getD es.length default).q) ((ks.getD es.length default).l))] [famG 100000 5 es, famR 100001 ks] (AllL.cons_ rfl (AllL.cons_ rfl (AllL.cons_ rfl (AllL.cons_ rfl (AllL.cons_ rfl (AllL.cons_ rfl (AllL.cons_ rfl (AllL.cons_ rfl (AllL.cons_ rfl (AllL.cons_ rfl (AllL.cons_ rfl (AllL.cons_ rfl (AllL.cons_ rfl (AllL.cons_ rfl (AllL.cons_ rfl (AllL.cons_ rfl (AllL.cons_ rfl (AllL.cons_ rfl (AllL.cons_ rfl (AllL.cons_ rfl (AllL.cons_ rfl (AllL.cons_ rfl (AllL.cons_ rfl (AllL.cons_ rfl (AllL.cons_ rfl (AllL.cons_ rfl (AllL.cons_ rfl (AllL.cons_ rfl (AllL.cons_ rfl (AllL.cons_ rfl (AllL.cons_ rfl (AllL.cons_ rfl (AllL.cons_ rfl (AllL.cons_ rfl (AllL.cons_ rfl (AllL.cons_ rfl (AllL.cons_ rfl (AllL.cons_ rfl (AllL.cons_ rfl (AllL.cons_ rfl (AllL.cons_ rfl (AllL.cons_ rfl (AllL.cons_ rfl trivial))))))))))))))))))))))))))))))))))))))))))) (AllL.cons_ rfl (AllL.cons_ rfl (AllL.cons_ rfl (AllL.cons_ rfl (AllL.cons_ rfl (AllL.cons_ rfl (AllL.cons_ rfl (AllL.cons_ rfl trivial)))))))) (AllL.cons_ FK (AllL.cons_ FK trivial)) ?_
   refine At.famPushG (bG A401 b401 c401 (ks.getD es.length default).l) (AllL.cons_ rfl (AllL.cons_ rfl (AllL.cons_ rfl (AllL.cons_ rfl (AllL.cons_ rfl (AllL.cons_ rfl (AllL.cons_ rfl trivial))))))) rfl (AllL.cons_ rfl trivial) ?_
   refine At.toM [(0, _), (1, _), (5, _), (6, _), (13, _), (14, _), (15, _), (16, _), (17, _), (19, _), (20, _), (21, _), (22, _), (23, _), (24, _), (25, _), (26, _), (27, _), (28, _), (29, _), (30, _), (31, _), (32, _), (33, _), (34, _), (35, _), (36, _), (37, iV ((es ++ [(bG A401 b401 c401 (ks.getD es.length default).l)]).length : Int))] [(0, dH true bD bS cD nD (wr + uL (es ++ [(bG A401 b401 c401 (ks.getD es.length default).l)]))), (1, _), (2, _), (3, _), (34, _), (54, _)] [famG 100000 5 (es ++ [(bG A401 b401 c401 (ks.getD es.length default).l)]), famR 100001 ks] (AllL.cons_ (rfl) (AllL.cons_ (rfl) (AllL.cons_ (rfl) (AllL.cons_ (rfl) (AllL.cons_ (rfl) (AllL.cons_ (rfl) (AllL.cons_ (rfl) (AllL.cons_ (rfl) (AllL.cons_ (rfl) (AllL.cons_ (rfl) (AllL.cons_ (rfl) (AllL.cons_ (rfl) (AllL.cons_ (rfl) (AllL.cons_ (rfl) (AllL.cons_ (rfl) (AllL.cons_ (rfl) (AllL.cons_ (rfl) (AllL.cons_ (rfl) (AllL.cons_ (rfl) (AllL.cons_ (rfl) (AllL.cons_ (rfl) (AllL.cons_ (rfl) (AllL.cons_ (rfl) (AllL.cons_ (rfl) (AllL.cons_ (rfl) (AllL.cons_ (rfl) (AllL.cons_ (rfl) (AllL.cons_ ((congrArg (fun z : Int => some (iV z)) (by simp))) trivial)))))))))))))))))))))))))))) (AllL.cons_ ((by exact congrArg (fun z : Int => some (dH true bD bS cD nD z)) (by rw [uL_push]; omega))) (AllL.cons_ (rfl) (AllL.cons_ (rfl) (AllL.cons_ (rfl) (AllL.cons_ (rfl) (AllL.cons_ (rfl) trivial)))))) (AllL.cons_ FK (AllL.cons_ FK trivial)) ?_
   exact hKc0 _ _ _ (by simp only [List.length_append, List.length_singleton]; omega) ⟨(es ++ [(bG A401 b401 c401 (ks.getD es.length default).l)]), A54, b54, c54, (splice S2 ((fstS nD (1 - ar) + es.length) * 64) (secB (gen + 1#64) es.length (ks.getD es.length default).l)), rfl, rfl, rfl, g54a, g54b, (BG.okP hes g401), (open_step hm (getD_l ks es.length).symm (by rw [List.length_map]; exact hil)), (by rw [List.length_append, List.length_singleton]; omega), (by rw [List.map_append]; exact hP.push (by rw [List.length_map]) h4 (by omega) (by omega) hkx.2)⟩
  · -- cond 38 f
   have e38 : ¬ (es.length : Int) < (ks.length : Int) := of_decide_eq_false h38
   refine At.exit ?_
   refine At.thn_e ?_
   refine At.thn_e ?_
   refine At.inb_hit ?_
   refine At.next ?_
   refine At.seq ?_
   refine At.seq ?_
   refine At.region ?_
   refine At.p (some 55) (P_move rfl rfl) ?_
   refine At.p (some 56) (P_nilCheck rfl rfl) ?_
   refine At.p (some 57) (P_fieldAddr0 (off := 4) rfl Try.underlying82 rfl sz3 rfl rfl) ?_
   refine At.q (some 58) (Q_loadO (k := 34) rfl rfl Try.underlying3 rfl rfl rfl) ?_
   refine At.p (some 10) (P_assign rfl rfl) ?_
   refine At.nil ?_
   refine At.next ?_
   refine At.block ?_
   refine At.loopx (I := fun m fr H => ∃ (k : Nat) (S3 : List (BitVec 8)), m = (nD - 2) / 2 - k ∧ fr = frOf [(0, ptr bJ 0), (1, .slice Ak ks.length ck), (5, iV 0), (6, ptr b34 0), (10, iV (k : Int)), (13, ptr bJ 0), (14, .slice Ak ks.length ck), (15, iV 0), (16, iV 0), (17, .bool (0 != 0)), (19, ptr bJ 0), (20, ptr bJ 0), (21, ptr bJ 0), (22, ptr bD 0), (23, ptr bJ 0), (24, ptr bJ 0), (25, ptr bJ 1), (26, u64V gen), (27, u64V (gen + 1#64)), (28, ptr bJ 0), (29, ptr bJ 0), (30, ptr bJ 2), (31, iV (ar : Int)), (32, iV ((1 - ar : Nat) : Int)), (33, .agg ([ptr bD 0, u64V (gen + 1#64), iV ((1 - ar : Nat) : Int), .slice none 0 0, iV 0, .bool false]).toArray), (34, ptr b34 0), (35, .slice Ak ks.length ck), (36, iV (ks.length : Int)), (37, iV (es.length : Int)), (38, .bool (decide ((es.length : Int) < (ks.length : Int)))), (55, ptr b34 0), (56, ptr b34 0), (57, ptr b34 4), (58, iV (uL es))] ∧ H = famsOf (hOf [(0, dH true bD bS cD nD (wr + (k : Int))), (1, rowS true bS S3 rD), (2, ⟨true, bJ, 0, 82, [ptr bD 0, u64V gen, iV (ar : Int), .slice Aj nj cj, iV uj, .bool false], 0⟩), (3, ⟨false, bk, qk, 0, (ks).map BG.v, 0⟩), (34, ⟨true, b34, 0, 82, [ptr bD 0, u64V (gen + 1#64), iV ((1 - ar : Nat) : Int), .slice A2 es.length c2, iV (uL es), .bool false], 0⟩), (54, ⟨true, b2, 0, 27, (es).map BG.v, c2 - (es).length⟩)]) [famG 100000 5 es, famR 100001 ks] ∧ (k ≤ (nD - 2) / 2) ∧ (ZerA S S3 nD (1 - ar) (gen + 1#64) (es.map BG.l) k)) ?_ ?_
   ·
    intro Kc1 hKc1
    refine At.toM [(0, _), (1, _), (5, _), (6, _), (10, _), (13, _), (14, _), (15, _), (16, _), (17, _), (19, _), (20, _), (21, _), (22, _), (23, _), (24, _), (25, _), (26, _), (27, _), (28, _), (29, _), (30, _), (31, _), (32, _), (33, _), (34, _), (35, _), (36, _), (37, _), (38, _), (55, _), (56, _), (57, _), (58, _)] [(0, _), (1, _), (2, _), (3, _), (34, _), (54, _)] [famG 100000 5 es, famR 100001 ks] (AllL.cons_ (rfl) (AllL.cons_ (rfl) (AllL.cons_ (rfl) (AllL.cons_ (rfl) (AllL.cons_ (rfl) (AllL.cons_ (rfl) (AllL.cons_ (rfl) (AllL.cons_ (rfl) (AllL.cons_ (rfl) (AllL.cons_ (rfl) (AllL.cons_ (rfl) (AllL.cons_ (rfl) (AllL.cons_ (rfl) (AllL.cons_ (rfl) (AllL.cons_ (rfl) (AllL.cons_ (rfl) (AllL.cons_ (rfl) (AllL.cons_ (rfl) (AllL.cons_ (rfl) (AllL.cons_ (rfl) (AllL.cons_ (rfl) (AllL.cons_ (rfl) (AllL.cons_ (rfl) (AllL.cons_ (rfl) (AllL.cons_ (rfl) (AllL.cons_ (rfl) (AllL.cons_ (rfl) (AllL.cons_ (rfl) (AllL.cons_ (rfl) (AllL.cons_ (rfl) (AllL.cons_ (rfl) (AllL.cons_ (rfl) (AllL.cons_ (rfl) (AllL.cons_ (rfl) trivial)))))))))))))))))))))))))))))))))) (AllL.cons_ (rfl) (AllL.cons_ (rfl) (AllL.cons_ (rfl) (AllL.cons_ (rfl) (AllL.cons_ (rfl) (AllL.cons_ (rfl) trivial)))))) (AllL.cons_ FK (AllL.cons_ FK trivial)) ?_
    exact hKc1 _ _ _ ⟨es.length, S2, rfl, rfl, rfl, (by omega), (hP.zer (by rw [List.length_map]))⟩
   ·
    rintro m fr H ⟨k, S3, rfl, rfl, rfl, hk3, hZ⟩ Kc1 hKc1
    have hSl3 := hZ.put.len
    refine At.seq ?_
    refine At.seq ?_
    refine At.region ?_
    refine At.p (some 59) (P_move rfl rfl) ?_
    refine At.p (some 60) (P_move rfl rfl) ?_
    refine At.p (some 61) (P_nilCheck rfl rfl) ?_
    refine At.p (some 62) (P_fieldAddr0 (off := 0) rfl Try.underlying82 rfl sz23 rfl rfl) ?_
    refine At.q (some 63) (Q_loadO (k := 2) rfl rfl Try.underlying23 rfl rfl rfl) ?_
    refine At.s (S_callV (some 64) [(0, _), (1, _)] [] (vs := [_]) rfl en48 rfl (VN (by simp) rfl View.all (VN (by simp) rfl View.all V0)) (by simp) (c_jsize (bD := bD) (bS := bS) (cD := cD) (nD := nD) (rD := rD) (S := S3) (wr := (wr + (k : Int))) (by omega) (by omega) (by omega) (by omega) (by omega) (by omega)) (by rintro _ _ ⟨rfl, rfl⟩; rfl) ?_)
    rintro _ _ ⟨rfl, rfl⟩
    refine At.p (some 65) (P_cmp rfl rfl rfl rfl rfl rfl) ?_
    refine At.nil ?_
    refine At.next ?_
    refine At.cond rfl (fun h65 => ?_) (fun h65 => ?_)
    · -- cond 65 t
     have e65 : (k : Int) < (((nD - 2) / 2 : Nat) : Int) := of_decide_eq_true h65
     refine At.skip ?_
     refine At.next ?_
     refine At.seq ?_
     refine At.block ?_
     refine At.seq ?_
     refine At.draws 16 [] [.q false [0, 1, 2, 3, 4, 5, 6, 7, 8, 9, 10, 11, 12, 13, 14], .e false 15] (by kernel_rfl) (by kernel_rfl) ?_
     refine At.wp (some 68) (P_move rfl rfl) ?_
     refine At.wp (some 69) (P_nilCheck rfl rfl) ?_
     refine At.wp (some 70) (P_fieldAddr0 (off := 0) rfl Try.underlying82 rfl sz23 rfl rfl) ?_
     refine At.wq (some 71) (Q_loadO (k := 2) rfl rfl Try.underlying23 rfl rfl rfl) ?_
     refine At.wp (some 72) (P_move rfl rfl) ?_
     refine At.wp (some 73) (P_nilCheck rfl rfl) ?_
     refine At.wp (some 74) (P_fieldAddr0 (off := 0) rfl Try.underlying82 rfl sz23 rfl rfl) ?_
     refine At.wq (some 75) (Q_loadO (k := 2) rfl rfl Try.underlying23 rfl rfl rfl) ?_
     refine At.wp (some 76) (P_move rfl rfl) ?_
     refine At.wp (some 77) (P_nilCheck rfl rfl) ?_
     refine At.wp (some 78) (P_fieldAddr0 (off := 2) rfl Try.underlying82 rfl sz3 rfl rfl) ?_
     refine At.wq (some 79) (Q_loadO (k := 34) rfl rfl Try.underlying3 rfl rfl rfl) ?_
     refine At.wcV (some 80) [(0, _), (1, _)] (vs := [_, _]) rfl en49 rfl (VN (by simp) rfl View.all (VN (by simp) rfl View.all V0)) (c_jfirst (bD := bD) (bS := bS) (cD := cD) (nD := nD) (rD := rD) (S := S3) (wr := (wr + (k : Int))) (a := (1 - ar)) (by omega) (by omega) (by omega) (by omega) (by omega) (by omega) (by omega)) ?_
     have := fst_le nD (1 - ar) (by omega)
     refine At.wp (some 81) (P_move rfl rfl) ?_
     refine At.wp (some 82) (P_add_i rfl rfl rfl (by omega)) ?_
     refine At.wqn ?_
     refine At.we ?_
     refine S_makeN (some 83) 83 (n := 64) (cs := ((List.replicate 64 0#8)).map u8V) rfl Try.underlying27 sz5 by5 ze5 rfl rfl (by omega) (by omega) (by omega) (by omega) ((made_one (n := 64) (by omega)).trans (by rw [List.map_replicate]; rfl)) (fun b83 => ?_)
     refine At.wt rfl ?_
     have : (splice S3 (((fstS nD (1 - ar)) + k) * 64) (List.replicate 64 0#8)).length = nD * 64 := splice_len (by assumption) (by have hx : (List.replicate 64 0#8).length = 64 := LN; omega)
     refine At.s (S_callR (some 84) [(0, _), (1, _)] [(83, _)] [0, 1] (vs := [_, _, _]) rfl en11 rfl (ON rfl rfl (ON rfl rfl O0)) (by simp) (VN (by simp) rfl View.all V0) (by simp) (c_WriteH (n := nD) (c := cD) (b := bD) (bs := bS) (wr := (wr + (k : Int))) (rest := rD) (k := ((fstS nD (1 - ar)) + k)) (S := S3) (l := (List.replicate 64 0#8)) (A := (some ⟨b83, 0, none⟩)) (nl := 64) (ca := 64) (bq := b83) (q := 0) (by omega) (by omega) (by omega) (by omega) (by omega) (by omega) LN (by omega) (fun _ => rfl)) (by rintro _ _ ⟨rfl, rfl⟩; rfl) ?_)
     rintro _ _ ⟨rfl, rfl⟩
     refine At.p (some 11) (P_assign rfl rfl) ?_
     refine At.nil ?_
     refine At.next ?_
     refine At.seq ?_
     refine At.region ?_
     refine At.p (some 85) (P_move rfl rfl) ?_
     refine At.p (some 86) (P_cmp rfl rfl rfl rfl rfl rfl) ?_
     refine At.nil ?_
     refine At.next ?_
     refine At.cond rfl (fun h86 => by exact absurd h86 (by decide)) (fun h86 => ?_)
     have e86 : 0 = 0 := bne_eq_false_iff_eq.1 h86
     refine At.skip ?_
     refine At.inb_n ?_
     refine At.next ?_
     refine At.region ?_
     refine At.p (some 66) (P_move rfl rfl) ?_
     refine At.p (some 67) (P_add_i rfl rfl rfl (by omega)) ?_
     refine At.p (some 10) (P_assign rfl rfl) ?_
     refine At.nil ?_
     refine At.next ?_
     refine At.toM [(0, _), (1, _), (5, _), (6, _), (10, iV ((k + 1 : Nat) : Int)), (13, _), (14, _), (15, _), (16, _), (17, _), (19, _), (20, _), (21, _), (22, _), (23, _), (24, _), (25, _), (26, _), (27, _), (28, _), (29, _), (30, _), (31, _), (32, _), (33, _), (34, _), (35, _), (36, _), (37, _), (38, _), (55, _), (56, _), (57, _), (58, _)] [(0, dH true bD bS cD nD (wr + ((k + 1) : Int))), (1, _), (2, _), (3, _), (34, _), (54, _)] [famG 100000 5 es, famR 100001 ks] (AllL.cons_ (rfl) (AllL.cons_ (rfl) (AllL.cons_ (rfl) (AllL.cons_ (rfl) (AllL.cons_ (rfl) (AllL.cons_ (rfl) (AllL.cons_ (rfl) (AllL.cons_ (rfl) (AllL.cons_ (rfl) (AllL.cons_ (rfl) (AllL.cons_ (rfl) (AllL.cons_ (rfl) (AllL.cons_ (rfl) (AllL.cons_ (rfl) (AllL.cons_ (rfl) (AllL.cons_ (rfl) (AllL.cons_ (rfl) (AllL.cons_ (rfl) (AllL.cons_ (rfl) (AllL.cons_ (rfl) (AllL.cons_ (rfl) (AllL.cons_ (rfl) (AllL.cons_ (rfl) (AllL.cons_ (rfl) (AllL.cons_ (rfl) (AllL.cons_ (rfl) (AllL.cons_ (rfl) (AllL.cons_ (rfl) (AllL.cons_ (rfl) (AllL.cons_ (rfl) (AllL.cons_ (rfl) (AllL.cons_ (rfl) (AllL.cons_ (rfl) (AllL.cons_ (rfl) trivial)))))))))))))))))))))))))))))))))) (AllL.cons_ ((by exact congrArg (fun z : Int => some (dH true bD bS cD nD z)) (by omega))) (AllL.cons_ (rfl) (AllL.cons_ (rfl) (AllL.cons_ (rfl) (AllL.cons_ (rfl) (AllL.cons_ (rfl) trivial)))))) (AllL.cons_ FK (AllL.cons_ FK trivial)) ?_
     exact hKc1 _ _ _ (by omega) ⟨(k + 1), (splice S3 ((fstS nD (1 - ar) + k) * 64) (List.replicate 64 0#8)), rfl, rfl, rfl, (by omega), (hZ.step h4 (by omega) (by omega))⟩
    · -- cond 65 f
     have e65 : ¬ (k : Int) < (((nD - 2) / 2 : Nat) : Int) := of_decide_eq_false h65
     refine At.exit ?_
     refine At.thn_e ?_
     refine At.thn_e ?_
     refine At.inb_hit ?_
     refine At.next ?_
     refine At.seq ?_
     refine At.seq ?_
     refine At.draws 19 [] [.q false [0, 1, 2, 3, 4, 5, 6, 7, 8, 9, 10, 11, 12, 13, 14, 15, 16, 17], .e false 18] (by kernel_rfl) (by kernel_rfl) ?_
     refine At.wp (some 90) (P_move rfl rfl) ?_
     refine At.wp (some 91) (P_nilCheck rfl rfl) ?_
     refine At.wp (some 92) (P_fieldAddr0 (off := 0) rfl Try.underlying82 rfl sz23 rfl rfl) ?_
     refine At.wq (some 93) (Q_loadO (k := 2) rfl rfl Try.underlying23 rfl rfl rfl) ?_
     refine At.wp (some 94) (P_move rfl rfl) ?_
     refine At.wp (some 95) (P_nilCheck rfl rfl) ?_
     refine At.wp (some 96) (P_fieldAddr0 (off := 1) rfl Try.underlying82 rfl sz22 rfl rfl) ?_
     refine At.wq (some 97) (Q_loadO (k := 34) rfl rfl Try.underlying22 rfl rfl rfl) ?_
     refine At.wp (some 98) (P_rem_w UK.u64 (b := 2#64) rfl rfl rfl (by decide)) ?_
     refine At.wp (some 99) (P_conv_WiE (z := (((gen + 1#64).toNat % 2 : Nat) : Int)) (mod2_toInt _) rfl Try.underlying22 Try.underlying3 rfl) ?_
     refine At.wp (some 100) (P_move rfl rfl) ?_
     refine At.wp (some 101) (P_nilCheck rfl rfl) ?_
     refine At.wp (some 102) (P_fieldAddr0 (off := 1) rfl Try.underlying82 rfl sz22 rfl rfl) ?_
     refine At.wq (some 103) (Q_loadO (k := 34) rfl rfl Try.underlying22 rfl rfl rfl) ?_
     refine At.wp (some 104) (P_move rfl rfl) ?_
     refine At.wp (some 105) (P_nilCheck rfl rfl) ?_
     refine At.wp (some 106) (P_fieldAddr0 (off := 2) rfl Try.underlying82 rfl sz3 rfl rfl) ?_
     refine At.wq (some 107) (Q_loadO (k := 34) rfl rfl Try.underlying3 rfl rfl rfl) ?_
     refine At.wqn ?_
     refine At.we ?_
     refine SStep.up (S_callV (some 108) [] [108] (vs := [_, _]) rfl en45 rfl V0 (by simp) (c_slot (gen := (gen + 1#64)) (area := ((1 - ar : Nat) : Int)) ) (by rintro _ _ ⟨A108, b108, c108, g108a, g108b, rfl, rfl⟩; rfl) ?_)
     rintro _ _ ⟨A108, b108, c108, g108a, g108b, rfl, rfl⟩
     have := slotB_len (gen + 1#64) ((1 - ar : Nat) : Int)
     refine At.wt rfl ?_
     have : (splice S3 (((gen + 1#64).toNat % 2) * 64) (slotB (gen + 1#64) ((1 - ar : Nat) : Int))).length = nD * 64 := splice_len (by assumption) (by have hx : (slotB (gen + 1#64) ((1 - ar : Nat) : Int)).length = ((slotB (gen + 1#64) ((1 - ar : Nat) : Int)).length) := LN; omega)
     refine At.s (S_callR (some 109) [(0, _), (1, _)] [(108, _)] [0, 1] (vs := [_, _, _]) rfl en11 rfl (ON rfl rfl (ON rfl rfl O0)) (by simp) (VN (by simp) rfl View.all V0) (by simp) (c_WriteH (n := nD) (c := cD) (b := bD) (bs := bS) (wr := (wr + (k : Int))) (rest := rD) (k := ((gen + 1#64).toNat % 2)) (S := S3) (l := (slotB (gen + 1#64) ((1 - ar : Nat) : Int))) (A := A108) (nl := ((slotB (gen + 1#64) ((1 - ar : Nat) : Int)).length)) (ca := c108) (bq := b108) (q := 0) (by omega) (by omega) (by omega) (by omega) (by omega) (by omega) LN (by omega) (fun h => g108a (by omega))) (by rintro _ _ ⟨rfl, rfl⟩; rfl) ?_)
     rintro _ _ ⟨rfl, rfl⟩
     refine At.p (some 12) (P_assign rfl rfl) ?_
     refine At.nil ?_
     refine At.next ?_
     refine At.seq ?_
     refine At.region ?_
     refine At.p (some 110) (P_move rfl rfl) ?_
     refine At.p (some 111) (P_cmp rfl rfl rfl rfl rfl rfl) ?_
     refine At.nil ?_
     refine At.next ?_
     refine At.cond rfl (fun h111 => by exact absurd h111 (by decide)) (fun h111 => ?_)
     have e111 : 0 = 0 := bne_eq_false_iff_eq.1 h111
     refine At.skip ?_
     refine At.next ?_
     refine At.seq ?_
     refine At.region ?_
     refine At.p (some 115) (P_move rfl rfl) ?_
     refine At.p (some 116) (P_move rfl rfl) ?_
     refine At.p (some 117) (P_nilCheck rfl rfl) ?_
     refine At.q (some 118) (Q_loadA (k := 34) rfl rfl Try.underlying82 rfl sz82 LN rfl) ?_
     refine At.p (some 119) (P_nilCheck rfl rfl) ?_
     refine At.s (S_storeA none (k := 2) (vs := [ptr bD 0, u64V (gen + 1#64), iV ((1 - ar : Nat) : Int), .slice A2 es.length c2, iV (uL es), .bool false]) rfl rfl rfl (by rw [sz82]; exact congrArg some LN) rfl (one_cons rfl (one_cons rfl (one_cons rfl (one_cons rfl (one_cons rfl (one_cons rfl one_nil)))))) NG rfl LN ?_)
     refine At.nil ?_
     refine At.next ?_
     refine At.seq ?_
     refine At.region ?_
     refine At.p (some 4) (P_assign rfl rfl) ?_
     refine At.nil ?_
     refine At.next ?_
     refine At.ret ?_
     -- END
     refine At.giveV (.inl rfl) ([0, 1, 2, 54] ++ famK 100000 es.length) (rows' := [_, _, _, _] ++ es.map (BG.row 5)) (ResV.tmps (vs := [_]) rfl ⟨rfl, trivial⟩) (give_famG rfl FK) (famK_app (by simp) ⟨rfl, rfl, rfl, rfl⟩) (own_famG (by simp [dH, rowD, rowS])) ?_
     have hkk : k = (nD - 2) / 2 := by omega
     subst hkk
     have hmk : es.map BG.l = ks.map BG.l := by rw [hm, show es.length = (ks.map BG.l).length by rw [List.length_map]; omega, List.take_length]
     rw [hmk] at hZ
     exact ⟨es, A2, b2, c2, _, hA2, hc2, hes, hmk, hZ.done h4 har hg (lens14 hkl) hsl, rfl, rfl⟩


end Go.Proofs.Ytdingfinclcbgaa

