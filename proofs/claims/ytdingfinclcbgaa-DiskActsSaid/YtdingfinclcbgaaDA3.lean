import Derived.Test.YtdingfinclcbgaaDA2
namespace Go.Proofs.Ytdingfinclcbgaa
set_option maxRecDepth 20000
set_option linter.unusedVariables false
set_option linter.unusedSimpArgs false
open Go.SE Go.RowKit
theorem wr_yesI {d : DM} (hok : d.Ok) {i : Int} {l : List (BitVec 8)} (h : mayE d.off d.n i = 0) (hl : l.length = 64) :
  (d.write i l).2 = wrE d.till ∧ (d.write i l).1.n = d.n ∧ (d.write i l).1.off = decide (d.till = 0) ∧ (d.write i l).1.till = max (d.till - 1) (-1) ∧ (d.write i l).1.torn = d.torn ∧ (d.write i l).1.wr = d.wr + 1 ∧
   (d.write i l).1.sector i.toNat = wrL d.till d.torn l (d.sector i.toNat) ∧ ∀ j, j ≠ i.toNat → (d.write i l).1.sector j = d.sector j := by
 obtain ⟨_, h0, _⟩ := mayE_0 h
 obtain ⟨k, rfl⟩ := Int.eq_ofNat_of_zero_le h0
 exact wr_yes hok h hl
theorem SecOk.writeI {d : DM} (hok : d.Ok) {es : List BG} (hs : SecOk d es) {i : Int} {l : List (BitVec 8)} (h : mayE d.off d.n i = 0) (hl : l.length = 64) {y : BG} (hy : y.l = wrL d.till d.torn l (es.getD i.toNat default).l) : SecOk (d.write i l).1 (es.set i.toNat y) := by
 obtain ⟨_, h0, _⟩ := mayE_0 h
 obtain ⟨k, rfl⟩ := Int.eq_ofNat_of_zero_le h0
 exact SecOk.write hok hs h hl hy
theorem read_e {d : DM} {i : Int} : (d.read i).2 = mayE d.off d.n i := by
 unfold DM.read
 split
 · rfl
 ·
  rename_i h
  exact (Classical.not_not.1 h).symm
theorem read_l {d : DM} {es : List BG} (hs : SecOk d es) {i : Int} : (d.read i).1 = (rdX d.off es i).l := by
 unfold DM.read rdX
 rw [hs.1]
 by_cases h : mayE d.off d.n i = 0
 ·
  rw [if_neg (by rw [h]; decide), if_pos h]
  obtain ⟨_, h0, h1⟩ := mayE_0 h
  exact (hs.2 _ (by omega)).symm
 ·
  rw [if_pos h, if_neg h]
  rfl
theorem up_read {d : DM} {j : Nat} (h : j < d.n) : d.up.read (j : Int) = (d.up.sector j, 0) := by
 have h1 : mayE d.up.off d.up.n (j : Int) = 0 := by
  show mayE false d.n _ = 0
  exact mayE_in (by omega)
 unfold DM.read
 rw [if_neg (by simpa using h1), Int.toNat_natCast]
theorem up_sec {d : DM} {es : List BG} (hs : SecOk d es) {j : Nat} (h : j < d.n) : d.up.sector j = (es.getD j default).l := (hs.2 j h).symm
theorem Q_rdX {P : Program} {E : Env} {fr : Fr} {H : Hp} {o : Oper} {x : Operand} {s d e : TypeId} (b : Nat) {off : Bool} {i : Int} {ty : TypeId} {es : List BG} (hF : FamOk H (famG b ty es)) (hes : ∀ e ∈ es, e.ok) (ho : o.op = .convert s d x) (hs : P.underlying s = some (.slice e)) (he : P.underlying e = some (.int .u8)) (hd : P.underlying d = some .string)
  (hx : fr.ev x = some (rdX off es i).v) : QStep P E fr H o (strV (rdX off es i).l) := by
 by_cases h : mayE off es.length i = 0
 ·
  obtain ⟨_, h0, h1⟩ := mayE_0 h
  have hr : rdX off es i = es.getD i.toNat default := if_pos h
  rw [hr] at hx ⊢
  exact Q_strG b _ hF (by omega) hes ho hs he hd hx
 ·
  have hr : rdX off es i = default := if_neg h
  rw [hr] at hx ⊢
  exact Q_str0 ho hs he hd hx

set_option maxHeartbeats 8000000 in
theorem l_Acts {size : Int} {L : List ActE} {A : Option Addr} {nr c b q : Nat} (hL : L.length = nr) (hA : 0 < nr → A = some ⟨b, q, none⟩) (hie : ∀ e ∈ L, e.ok) :
  Con Try.prog 4 [iV size, .slice A nr c] ([⟨false, b, q, 0, encs ActN L, 0⟩] ++ (L.map ActE.B).map BG.vrow) (fun v rs => v = .bool true ∧ rs = []) := by
 refine Con.enterF 100001 Try.func4 Try.ntmps4 (Nat.le_of_ble_eq_true rfl) rfl fun w => ?_
 refine At.seq ?_
 refine At.region ?_
 refine At.p (some 4) (P_assign rfl rfl) ?_
 refine At.nil ?_
 refine At.next ?_
 refine At.seq ?_
 refine At.region ?_
 refine At.s (S_callV (some 25) [] [] (vs := []) rfl en16 rfl V0 (by simp) (c_none) (by rintro _ _ ⟨rfl, rfl⟩; rfl) ?_)
 rintro _ _ ⟨rfl, rfl⟩
 refine At.s (S_callV (some 26) [] [] (vs := [_, _]) rfl en13 rfl V0 (by simp) (n_Read (i := 0)) (by rintro _ _ ⟨rfl, rfl⟩; rfl) ?_)
 rintro _ _ ⟨rfl, rfl⟩
 refine At.p (some 24) (P_move rfl rfl) ?_
 refine At.p (some 27) (P_extract rfl rfl rfl) ?_
 refine At.p (some 28) (P_extract rfl rfl rfl) ?_
 refine At.p (some 5) (P_assign rfl rfl) ?_
 refine At.p (some 6) (P_assign rfl rfl) ?_
 refine At.nil ?_
 refine At.next ?_
 refine At.seq ?_
 refine At.region ?_
 refine At.s (S_callV (some 29) [] [] (vs := []) rfl en16 rfl V0 (by simp) (c_none) (by rintro _ _ ⟨rfl, rfl⟩; rfl) ?_)
 rintro _ _ ⟨rfl, rfl⟩
 refine At.s (S_callV (some 30) [] [] (vs := [_, _, _]) rfl en10 rfl V0 (by simp) (n_Fail (i := 1) (j := 1)) (by rintro _ _ ⟨rfl, rfl⟩; rfl) ?_)
 rintro _ _ ⟨rfl, rfl⟩
 refine At.nil ?_
 refine At.next ?_
 refine At.seq ?_
 refine At.region ?_
 refine At.s (S_callV (some 31) [] [] (vs := []) rfl en16 rfl V0 (by simp) (c_none) (by rintro _ _ ⟨rfl, rfl⟩; rfl) ?_)
 rintro _ _ ⟨rfl, rfl⟩
 refine At.s (S_callV (some 32) [] [] (vs := [_]) rfl en12 rfl V0 (by simp) (n_Up) (by rintro _ _ ⟨rfl, rfl⟩; rfl) ?_)
 rintro _ _ ⟨rfl, rfl⟩
 refine At.nil ?_
 refine At.next ?_
 refine At.seq ?_
 refine At.seq ?_
 refine At.region ?_
 refine At.s (S_callV (some 33) [] [] (vs := []) rfl en14 rfl V0 (by simp) (c_tears) (by rintro _ _ ⟨rfl, rfl⟩; rfl) ?_)
 rintro _ _ ⟨rfl, rfl⟩
 refine At.p (some 34) (P_not rfl rfl) ?_
 refine At.p (some 35) (P_move rfl rfl) ?_
 refine At.gy (t := 35) rfl rfl rfl rfl ?_
 refine At.p (some 36) (P_move rfl rfl) ?_
 refine At.gy (t := 35) rfl rfl rfl rfl ?_
 refine At.p (some 37) (P_cmp rfl rfl rfl rfl rfl rfl) ?_
 refine At.p (some 38) (P_pick_f rfl rfl rfl rfl) ?_
 refine At.p (some 39) (P_move rfl rfl) ?_
 refine At.gy (t := 39) rfl rfl rfl rfl ?_
 refine At.s (S_callV (some 40) [] [] (vs := []) rfl en16 rfl V0 (by simp) (c_none) (by rintro _ _ ⟨rfl, rfl⟩; rfl) ?_)
 rintro _ _ ⟨rfl, rfl⟩
 refine At.gy (t := 39) rfl rfl rfl rfl ?_
 refine At.s (S_callV (some 41) [] [] (vs := [_, _, _]) rfl en11 rfl V0 (by simp) (n_Write (i := 0)) (by rintro _ _ ⟨rfl, rfl⟩; rfl) ?_)
 rintro _ _ ⟨rfl, rfl⟩
 refine At.gy (t := 39) rfl rfl rfl rfl ?_
 refine At.p (some 42) (P_cmp rfl rfl rfl rfl rfl rfl) ?_
 refine At.p (some 43) (P_pick_f rfl rfl rfl rfl) ?_
 refine At.p (some 44) (P_move rfl rfl) ?_
 refine At.gy (t := 44) rfl rfl rfl rfl ?_
 refine At.s (S_callV (some 45) [] [] (vs := []) rfl en16 rfl V0 (by simp) (c_none) (by rintro _ _ ⟨rfl, rfl⟩; rfl) ?_)
 rintro _ _ ⟨rfl, rfl⟩
 refine At.gy (t := 44) rfl rfl rfl rfl ?_
 refine At.s (S_callV (some 46) [] [] (vs := [_]) rfl en17 rfl V0 (by simp) (n_On) (by rintro _ _ ⟨rfl, rfl⟩; rfl) ?_)
 rintro _ _ ⟨rfl, rfl⟩
 refine At.p (some 47) (P_pick_f rfl rfl rfl rfl) ?_
 refine At.p (some 48) (P_move rfl rfl) ?_
 refine At.gy (t := 48) rfl rfl rfl rfl ?_
 refine At.s (S_callV (some 49) [] [] (vs := []) rfl en16 rfl V0 (by simp) (c_none) (by rintro _ _ ⟨rfl, rfl⟩; rfl) ?_)
 rintro _ _ ⟨rfl, rfl⟩
 refine At.gy (t := 48) rfl rfl rfl rfl ?_
 refine At.s (S_callV (some 50) [] [] (vs := [_]) rfl en18 rfl V0 (by simp) (n_Size) (by rintro _ _ ⟨rfl, rfl⟩; rfl) ?_)
 rintro _ _ ⟨rfl, rfl⟩
 refine At.gy (t := 48) rfl rfl rfl rfl ?_
 refine At.p (some 51) (P_cmp rfl rfl rfl rfl rfl rfl) ?_
 refine At.p (some 52) (P_pick_f rfl rfl rfl rfl) ?_
 refine At.p (some 53) (P_move rfl rfl) ?_
 refine At.gy (t := 53) rfl rfl rfl rfl ?_
 refine At.s (S_callV (some 54) [] [] (vs := []) rfl en16 rfl V0 (by simp) (c_none) (by rintro _ _ ⟨rfl, rfl⟩; rfl) ?_)
 rintro _ _ ⟨rfl, rfl⟩
 refine At.gy (t := 53) rfl rfl rfl rfl ?_
 refine At.s (S_callV (some 55) [] [] (vs := [_]) rfl en15 rfl V0 (by simp) (n_Writes) (by rintro _ _ ⟨rfl, rfl⟩; rfl) ?_)
 rintro _ _ ⟨rfl, rfl⟩
 refine At.gy (t := 53) rfl rfl rfl rfl ?_
 refine At.p (some 56) (P_cmp rfl rfl rfl rfl rfl rfl) ?_
 refine At.p (some 57) (P_pick_f rfl rfl rfl rfl) ?_
 refine At.p (some 58) (P_move rfl rfl) ?_
 refine At.gy (t := 58) rfl rfl rfl rfl ?_
 refine At.s (S_callV (some 59) [] [] (vs := []) rfl en16 rfl V0 (by simp) (c_none) (by rintro _ _ ⟨rfl, rfl⟩; rfl) ?_)
 rintro _ _ ⟨rfl, rfl⟩
 refine At.gy (t := 58) rfl rfl rfl rfl ?_
 refine At.s (S_callV (some 60) [] [] (vs := [_]) rfl en19 rfl V0 (by simp) (n_Copy) (by rintro _ _ ⟨rfl, rfl⟩; rfl) ?_)
 rintro _ _ ⟨rfl, rfl⟩
 refine At.gy (t := 58) rfl rfl rfl rfl ?_
 refine At.p (some 61) (P_neq_ptr rfl rfl rfl Try.underlying23) ?_
 refine At.p (some 62) (P_pick_f rfl rfl rfl rfl) ?_
 refine At.nil ?_
 refine At.next ?_
 refine At.cond rfl (fun h62 => by simp at h62) (fun h62 => ?_)
 refine At.skip ?_
 refine At.next ?_
 refine At.seq ?_
 refine At.region ?_
 refine At.p (some 64) (P_move rfl rfl) ?_
 rcases Classical.em (size < 1 ∨ 512 < size) with hsz | hsz
 · -- case 0
  refine At.s (S_callV (some 65) [] [] (vs := [_]) rfl en9 rfl V0 (by simp) (c_NewBad (n := size) (by omega)) (by rintro _ _ ⟨rfl, rfl⟩; rfl) ?_)
  rintro _ _ ⟨rfl, rfl⟩
  refine At.p (some 63) (P_move rfl rfl) ?_
  refine At.p (some 66) (P_extract rfl rfl rfl) ?_
  refine At.p (some 67) (P_extract rfl rfl rfl) ?_
  refine At.p (some 7) (P_assign rfl rfl) ?_
  refine At.p (some 8) (P_assign rfl rfl) ?_
  refine At.nil ?_
  refine At.next ?_
  refine At.seq ?_
  refine At.seq ?_
  refine At.region ?_
  refine At.p (some 68) (P_move rfl rfl) ?_
  refine At.p (some 69) (P_cmp rfl rfl rfl rfl rfl rfl) ?_
  refine At.p (some 70) (P_move rfl rfl) ?_
  refine At.gsplit (t := 70) (want := false) rfl (fun g1 => ?_) (fun g1 => ?_)
  ·
   have eg1 : ¬ size < 1 := of_decide_eq_false g1
   refine At.gy (t := 70) rfl g1 rfl rfl ?_
   refine At.p (some 71) (P_move rfl rfl) ?_
   refine At.gy (t := 70) rfl g1 rfl rfl ?_
   refine At.p (some 72) (P_cmp rfl rfl rfl rfl rfl rfl) ?_
   refine At.p (some 73) (P_pick_f rfl rfl g1 rfl) ?_
   refine At.nil ?_
   refine At.next ?_
   refine At.cond rfl (fun h73 => ?_) (fun h73 => by exfalso; have e9 : ¬ size > 512 := of_decide_eq_false h73; first | omega | (simp at e9; done) | (simp at e9; omega))
   have e73 : size > 512 := of_decide_eq_true h73
   refine At.seq ?_
   refine At.region ?_
   refine At.p (some 74) (P_move rfl rfl) ?_
   refine At.p (some 75) (P_cmp rfl rfl rfl rfl rfl rfl) ?_
   refine At.p (some 76) (P_move rfl rfl) ?_
   refine At.gy (t := 76) rfl (by decide) rfl rfl ?_
   refine At.p (some 77) (P_move rfl rfl) ?_
   refine At.gy (t := 76) rfl (by decide) rfl rfl ?_
   refine At.p (some 78) (P_eql_ptr rfl rfl rfl Try.underlying23) ?_
   refine At.p (some 79) (P_pick_t rfl rfl (by decide) rfl) ?_
   refine At.p (some 4) (P_assign rfl rfl) ?_
   refine At.nil ?_
   refine At.next ?_
   refine At.ret ?_
   refine At.thn_r ?_
   have hq0 : true = true := (by first | rfl | decide | (simp; done))
   refine At.give (.inl rfl) [] (rows' := []) (vs := [_]) rfl ⟨rfl, trivial⟩ rfl (by simp) (by simp) ⟨(by first | (rw [hq0]; try rfl; done) | (rw [← hq0]; try rfl; done) | (simp only [hq0]; try rfl; done) | (simp only [← hq0]; try rfl; done) | rfl), (by first | (rw [hq0]; try rfl; done) | (rw [← hq0]; try rfl; done) | (simp only [hq0]; try rfl; done) | (simp only [← hq0]; try rfl; done) | rfl)⟩
  ·
   have eg1 : size < 1 := of_decide_eq_true g1
   refine At.gn (some 71) (t := 70) rfl g1 rfl rfl ?_
   refine At.gn (some 72) (t := 70) rfl g1 rfl rfl ?_
   refine At.p (some 73) (P_pick_t rfl rfl g1 rfl) ?_
   refine At.nil ?_
   refine At.next ?_
   refine At.cond rfl (fun _ => ?_) (fun h => absurd (h.symm.trans rfl) (by decide))
   refine At.seq ?_
   refine At.region ?_
   refine At.p (some 74) (P_move rfl rfl) ?_
   refine At.p (some 75) (P_cmp rfl rfl rfl rfl rfl rfl) ?_
   refine At.p (some 76) (P_move rfl rfl) ?_
   refine At.gy (t := 76) rfl (by decide) rfl rfl ?_
   refine At.p (some 77) (P_move rfl rfl) ?_
   refine At.gy (t := 76) rfl (by decide) rfl rfl ?_
   refine At.p (some 78) (P_eql_ptr rfl rfl rfl Try.underlying23) ?_
   refine At.p (some 79) (P_pick_t rfl rfl (by decide) rfl) ?_
   refine At.p (some 4) (P_assign rfl rfl) ?_
   refine At.nil ?_
   refine At.next ?_
   refine At.ret ?_
   refine At.thn_r ?_
   have hq0 : true = true := (by first | rfl | decide | (simp; done))
   refine At.give (.inl rfl) [] (rows' := []) (vs := [_]) rfl ⟨rfl, trivial⟩ rfl (by simp) (by simp) ⟨(by first | (rw [hq0]; try rfl; done) | (rw [← hq0]; try rfl; done) | (simp only [hq0]; try rfl; done) | (simp only [← hq0]; try rfl; done) | rfl), (by first | (rw [hq0]; try rfl; done) | (rw [← hq0]; try rfl; done) | (simp only [hq0]; try rfl; done) | (simp only [← hq0]; try rfl; done) | rfl)⟩
 · -- case 1
  obtain ⟨n, rfl⟩ := Int.eq_ofNat_of_zero_le (show 0 ≤ size by omega)
  refine At.s (S_callV (some 65) [] [100, 101] (vs := [_]) rfl en9 rfl V0 (by simp) (c_New n (by omega) (by omega)) (by rintro _ _ ⟨b0, b1, rfl, rfl⟩; rfl) ?_)
  rintro _ _ ⟨b0, b1, rfl, rfl⟩
  refine At.p (some 63) (P_move rfl rfl) ?_
  refine At.p (some 66) (P_extract rfl rfl rfl) ?_
  refine At.p (some 67) (P_extract rfl rfl rfl) ?_
  refine At.p (some 7) (P_assign rfl rfl) ?_
  refine At.p (some 8) (P_assign rfl rfl) ?_
  refine At.nil ?_
  refine At.next ?_
  refine At.seq ?_
  refine At.seq ?_
  refine At.region ?_
  refine At.p (some 68) (P_move rfl rfl) ?_
  refine At.p (some 69) (P_cmp rfl rfl rfl rfl rfl rfl) ?_
  refine At.p (some 70) (P_move rfl rfl) ?_
  refine At.gy (t := 70) rfl (decide_eq_false (by omega)) rfl rfl ?_
  refine At.p (some 71) (P_move rfl rfl) ?_
  refine At.gy (t := 70) rfl (decide_eq_false (by omega)) rfl rfl ?_
  refine At.p (some 72) (P_cmp rfl rfl rfl rfl rfl rfl) ?_
  refine At.p (some 73) (P_pick_f rfl rfl (decide_eq_false (by omega)) rfl) ?_
  refine At.nil ?_
  refine At.next ?_
  refine At.cond rfl (fun h73 => by exfalso; have e9 : (n : Int) > 512 := of_decide_eq_true h73; first | omega | (simp at e9; done) | (simp at e9; omega)) (fun h73 => ?_)
  have e73 : ¬ (n : Int) > 512 := of_decide_eq_false h73
  refine At.skip ?_
  refine At.next ?_
  refine At.seq ?_
  refine At.region ?_
  refine At.p (some 80) (P_move rfl rfl) ?_
  refine At.s (S_callRF (some 81) [] [] [102, 103] 100000 (vs := [_]) rfl en20 rfl O0 (by simp) V0 (by simp) ⟨rfl, rfl⟩ (r_New (n := n) (by omega)) (by rintro _ _ ⟨_, _, _, _, _, _, _, _, _, _, rfl, rfl⟩; simp) ?_)
  rintro _ _ ⟨bw, es0, Aw, bS, cw, hAw, hcw, hen, hes0, hez, rfl, rfl⟩
  rw [sets_famG rfl, hen]
  rw [hen] at hcw
  refine At.p (some 9) (P_assign rfl rfl) ?_
  refine At.nil ?_
  refine At.next ?_
  refine At.seq ?_
  refine At.seq ?_
  refine At.region ?_
  refine At.p (some 10) (P_assign rfl rfl) ?_
  refine At.nil ?_
  refine At.next ?_
  refine At.block ?_
  refine At.loopx (I := fun m fr H => ∃ (k : Nat) (d : DM) (es : List BG), m = 50 - k ∧ fr = frOf [(0, iV (n : Int)), (1, .slice A nr c), (7, ptr b0 0), (8, iV 0), (9, ptr bw 0), (10, iV (k : Int))] ∧ H = famsOf (hOf [(0, ⟨false, b, q, 0, encs ActN L, 0⟩), (100, (DM.row d true b0 b1 n)), (101, (rowS true b1 d.S 0)), (102, ⟨true, bw, 0, 46, [.slice Aw n cw, .bool d.off, iV d.till, iV (d.torn : Int), iV d.wr], 0⟩), (103, ⟨true, bS, 0, 27, (es).map BG.v, cw - n⟩)]) [famG 100000 5 es, famR 100001 (L.map ActE.B)] ∧ (k ≤ 50) ∧ (d.Ok) ∧ (d.n = n) ∧ (d.wr ≤ k) ∧ (SecOk d es) ∧ (∀ e ∈ es, e.ok)) ?_ ?_
  ·
   intro Kc0 hKc0
   refine At.toM [(0, _), (1, _), (7, _), (8, _), (9, _), (10, _)] [(0, _), (100, _), (101, _), (102, ⟨true, bw, 0, 46, [.slice Aw n cw, .bool (DM.new n).off, iV (DM.new n).till, iV ((DM.new n).torn : Int), iV (DM.new n).wr], 0⟩), (103, _)] [famG 100000 5 es0, famR 100001 (L.map ActE.B)] (AllL.cons_ (rfl) (AllL.cons_ (rfl) (AllL.cons_ (rfl) (AllL.cons_ (rfl) (AllL.cons_ (rfl) (AllL.cons_ (rfl) trivial)))))) (AllL.cons_ (rfl) (AllL.cons_ (rfl) (AllL.cons_ (rfl) (AllL.cons_ (rfl) (AllL.cons_ (rfl) trivial))))) (AllL.cons_ FK2 (AllL.cons_ FK2 trivial)) ?_
   exact hKc0 _ _ _ ⟨0, (DM.new n), es0, rfl, rfl, rfl, (by omega), (DM.new_ok (by omega) (by omega)), rfl, (by show (0 : Int) ≤ _; omega), (SecOk.new hen hez), hes0⟩
  ·
   rintro m fr H ⟨k, d, es, rfl, rfl, rfl, hk, hok, hdn, hwr, hs, hes⟩ Kc0 hKc0
   have hesn : es.length = n := hs.1.trans hdn
   have hwr0 := hok.2.2.2.2.1
   have ht1 := hok.2.1
   have ht2 := hok.2.2.1
   have ht3 := hok.2.2.2.1
   refine At.seq ?_
   refine At.seq ?_
   refine At.region ?_
   refine At.p (some 82) (P_move rfl rfl) ?_
   refine At.p (some 83) (P_move rfl rfl) ?_
   refine At.p (some 84) (P_len_sl rfl rfl ⟨_, Try.underlying35⟩ rfl) ?_
   refine At.p (some 85) (P_cmp rfl rfl rfl rfl rfl rfl) ?_
   refine At.p (some 86) (P_move rfl rfl) ?_
   refine At.gsplit (t := 86) (want := true) rfl (fun g2 => ?_) (fun g2 => ?_)
   ·
    have eg2 : (k : Int) < (nr : Int) := of_decide_eq_true g2
    refine At.gy (t := 86) rfl g2 rfl rfl ?_
    refine At.p (some 87) (P_move rfl rfl) ?_
    refine At.gy (t := 86) rfl g2 rfl rfl ?_
    refine At.p (some 88) (P_cmp rfl rfl rfl rfl rfl rfl) ?_
    refine At.p (some 89) (P_pick_t rfl rfl g2 rfl) ?_
    refine At.nil ?_
    refine At.next ?_
    refine At.cond rfl (fun h89 => ?_) (fun h89 => ?_)
    · -- cond 89 t
     have e89 : (k : Int) < 50 := of_decide_eq_true h89
     refine At.skip ?_
     refine At.next ?_
     refine At.seq ?_
     refine At.block ?_
     refine At.seq ?_
     refine At.region ?_
     refine At.p (some 92) (P_move rfl rfl) ?_
     refine At.p (some 93) (P_move rfl rfl) ?_
     refine At.p (some 94) (P_indexAddr_sl (b := b) (m := q) (j := k) rfl Try.underlying35 sz40 rfl (hA OG) rfl RO OG) ?_
     refine At.q (some 95) (Q_loadEN (en := ActN) (k := 0) (j := k) (p := 0) (L := L) (cs := [iV ((L.getD k default).w), iV ((L.getD k default).i), iV ((L.getD k default).n), .slice (((L.getD k default).B).A) (((L.getD k default).B).l.length) (((L.getD k default).B).c)]) (sz := 4) default rfl rfl rfl Try.underlying40 rfl sz40 rfl OG OG (List.take_of_length_le (Nat.le_of_eq (Enc.len _ _))) LN (by decide)) ?_
     refine At.s (S_alloc (some 11) 11 (zs := [iV 0, iV 0, iV 0, .slice none 0 0]) rfl ze40 rfl (fun b11 => ?_))
     refine At.s (S_storeA none (k := 11) (vs := [iV ((L.getD k default).w), iV ((L.getD k default).i), iV ((L.getD k default).n), .slice (((L.getD k default).B).A) (((L.getD k default).B).l.length) (((L.getD k default).B).c)]) rfl rfl rfl (by rw [sz40]; exact congrArg some LN) rfl (one_cons rfl (one_cons rfl (one_cons rfl (one_cons rfl one_nil)))) NG rfl LN ?_)
     refine At.nil ?_
     refine At.next ?_
     refine At.seq ?_
     have hkl : k < L.length := by omega
     obtain ⟨⟨ha1, ha2⟩, ⟨ha3, ha4⟩, ⟨ha5, ha6⟩, hxo⟩ := getD_act hie hkl
     have hxle := BG.leR hxo
     refine At.famSee 400 100001 _ k (getD_B L k) FK2 ?_
     generalize L.getD k default = x at ha1 ha2 ha3 ha4 ha5 ha6 hxo hxle ⊢
     refine At.region ?_
     refine At.p (some 96) (P_move rfl rfl) ?_
     refine At.s (S_callV (some 97) [(100, _), (101, _)] [97, 1097] (vs := [_]) rfl en19 rfl (VN (by simp) rfl View.all (VN (by simp) rfl View.all V0)) (by simp) (c_Copy d hok b0 b1 n 0 (by first | omega | exact (show d.n ≤ n by omega))) (by rintro _ _ ⟨bc97, bcs97, cc97, gc97, rfl, rfl⟩; rfl) ?_)
     rintro _ _ ⟨bc97, bcs97, cc97, gc97, rfl, rfl⟩
     refine At.p (some 12) (P_assign rfl rfl) ?_
     refine At.nil ?_
     refine At.next ?_
     refine At.seqJ (fun fr H => ∃ (d2 : DM) (es2 : List BG), fr = frOf [(0, iV (n : Int)), (1, .slice A nr c), (7, ptr b0 0), (8, iV 0), (9, ptr bw 0), (10, iV (k : Int))] ∧ H = famsOf (hOf [(0, ⟨false, b, q, 0, encs ActN L, 0⟩), (100, (DM.row d2 true b0 b1 n)), (101, (rowS true b1 d2.S 0)), (102, ⟨true, bw, 0, 46, [.slice Aw n cw, .bool d2.off, iV d2.till, iV (d2.torn : Int), iV d2.wr], 0⟩), (103, ⟨true, bS, 0, 27, (es2).map BG.v, cw - n⟩)]) [famG 100000 5 es2, famR 100001 (L.map ActE.B)] ∧ (d2.Ok) ∧ (d2.n = n) ∧ (d2.wr ≤ k + 1) ∧ (SecOk d2 es2) ∧ (∀ e ∈ es2, e.ok)) ?_ ?_
     ·
      intro Kj1 hKj1
      refine At.seq ?_
      refine At.region ?_
      refine At.p (some 98) (P_fieldAddr0 (off := 0) rfl Try.underlying40 rfl sz3 rfl rfl) ?_
      refine At.q (some 99) (Q_loadO (k := 11) rfl rfl Try.underlying3 rfl rfl rfl) ?_
      refine At.p (some 100) (P_conv_iw UK.u64 rfl Try.underlying3 Try.underlying22 rfl) ?_
      refine At.p (some 101) (P_rem_w UK.u64 (b := 6#64) rfl rfl rfl (by decide)) ?_
      obtain ⟨k102, hk102, hek102, hdk102⟩ := umod_c ((BitVec.ofInt 64 x.w)) 6#64 (by decide) (by decide)
      have hk102 : k102 < 6 := hk102
      refine At.p (some 102) (P_conv_WiE hek102 rfl Try.underlying22 Try.underlying3 rfl) ?_
      refine At.nil ?_
      refine At.next ?_
      refine At.block ?_
      refine At.seq ?_
      refine At.region ?_
      refine At.p (some 104) (P_cmp rfl rfl rfl rfl rfl rfl) ?_
      refine At.p (some 103) (P_assign rfl rfl) ?_
      refine At.nil ?_
      refine At.next ?_
      refine At.cond rfl (fun h103 => ?_) (fun h103 => ?_)
      · -- cond 103 t
       have e103 : (k102 : Int) = 0 := eq_of_beq h103
       refine At.seq ?_
       refine At.region ?_
       refine At.p (some 106) (P_move rfl rfl) ?_
       refine At.p (some 107) (P_fieldAddr0 (off := 1) rfl Try.underlying40 rfl sz3 rfl rfl) ?_
       refine At.q (some 108) (Q_loadO (k := 11) rfl rfl Try.underlying3 rfl rfl rfl) ?_
       refine At.s (S_callV (some 109) [(100, _), (101, _)] [109] (vs := [_, _]) rfl en13 rfl (VN (by simp) rfl View.all (VN (by simp) rfl View.all V0)) (by simp) (c_Read d hok b0 b1 n 0 (by first | omega | exact (show d.n ≤ n by omega)) x.i ((d.read x.i).2) ((d.read x.i).1) rfl) (by rintro _ _ ⟨A109, b109, c109, g109a, g109b, rfl, rfl⟩; rfl) ?_)
       rintro _ _ ⟨A109, b109, c109, g109a, g109b, rfl, rfl⟩
       refine At.p (some 105) (P_move rfl rfl) ?_
       refine At.p (some 110) (P_extract rfl rfl rfl) ?_
       refine At.p (some 111) (P_extract rfl rfl rfl) ?_
       refine At.p (some 13) (P_assign rfl rfl) ?_
       refine At.p (some 14) (P_assign rfl rfl) ?_
       refine At.nil ?_
       refine At.next ?_
       refine At.seq ?_
       refine At.region ?_
       refine At.p (some 113) (P_move rfl rfl) ?_
       refine At.p (some 114) (P_fieldAddr0 (off := 1) rfl Try.underlying40 rfl sz3 rfl rfl) ?_
       refine At.q (some 115) (Q_loadO (k := 11) rfl rfl Try.underlying3 rfl rfl rfl) ?_
       refine At.s (S_callV (some 116) [(102, _), (103, _)] [] (vs := [_, _]) rfl en21 rfl (VN (by simp) rfl View.all (VN (by simp) rfl View.all V0)) (by simp) (r_Read (bw := bw) (bS := bS) (cw := cw) (torn := d.torn) (m := n) (off := d.off) (till := d.till) (wr := d.wr) (es := es) (Aw := Aw) (i := x.i) hAw hcw (by first | assumption | omega) (by omega) (by assumption)) (by rintro _ _ ⟨rfl, rfl⟩; rfl) ?_)
       rintro _ _ ⟨rfl, rfl⟩
       refine At.p (some 112) (P_move rfl rfl) ?_
       refine At.p (some 117) (P_extract rfl rfl rfl) ?_
       refine At.p (some 118) (P_extract rfl rfl rfl) ?_
       refine At.p (some 15) (P_assign rfl rfl) ?_
       refine At.p (some 16) (P_assign rfl rfl) ?_
       refine At.nil ?_
       refine At.next ?_
       refine At.seq ?_
       refine At.region ?_
       refine At.p (some 119) (P_move rfl rfl) ?_
       refine At.p (some 120) (P_move rfl rfl) ?_
       refine At.p (some 121) (P_cmp rfl rfl rfl rfl rfl rfl) ?_
       refine At.p (some 122) (P_move rfl rfl) ?_
       refine At.gy (t := 122) rfl (bne_eq_false_iff_eq.2 (by rw [read_e, hdn])) rfl rfl ?_
       refine At.p (some 123) (P_move rfl rfl) ?_
       refine At.gy (t := 122) rfl (bne_eq_false_iff_eq.2 (by rw [read_e, hdn])) rfl rfl ?_
       refine At.q (some 124) (Q_strA (l := ((d.read x.i).1)) (n := (((d.read x.i).1).length)) (k := 109) LN rfl Try.underlying27 Try.underlying5 Try.underlying9 rfl (fun h => g109a (by omega)) (fun _ => ⟨rfl, rfl, rfl⟩)) ?_
       refine At.gy (t := 122) rfl (bne_eq_false_iff_eq.2 (by rw [read_e, hdn])) rfl rfl ?_
       refine At.p (some 125) (P_move rfl rfl) ?_
       refine At.gy (t := 122) rfl (bne_eq_false_iff_eq.2 (by rw [read_e, hdn])) rfl rfl ?_
       refine At.q (some 126) (Q_rdX 100000 FK2 hes rfl Try.underlying27 Try.underlying5 Try.underlying9 rfl) ?_
       refine At.gy (t := 122) rfl (bne_eq_false_iff_eq.2 (by rw [read_e, hdn])) rfl rfl ?_
       refine At.p (some 127) (P_neq_str (a := ((d.read x.i).1)) (b := ((rdX d.off es x.i).l)) rfl rfl rfl) ?_
       refine At.p (some 128) (P_pick_f rfl rfl (bne_eq_false_iff_eq.2 (by rw [read_e, hdn])) rfl) ?_
       refine At.nil ?_
       refine At.next ?_
       refine At.cond rfl (fun h128 => by simp [read_l hs] at h128) (fun h128 => ?_)
       have e128 : ((d.read x.i).1) = ((rdX d.off es x.i).l) := (by first | (simp; done) | simpa using h128)
       refine At.skip ?_
       refine At.inb_n ?_
       refine At.next ?_
       refine At.toM [(0, _), (1, _), (7, _), (8, _), (9, _), (10, _)] [(0, _), (100, _), (101, _), (102, _), (103, _)] [famG 100000 5 es, famR 100001 (L.map ActE.B)] (AllL.cons_ (rfl) (AllL.cons_ (rfl) (AllL.cons_ (rfl) (AllL.cons_ (rfl) (AllL.cons_ (rfl) (AllL.cons_ (rfl) trivial)))))) (AllL.cons_ (rfl) (AllL.cons_ (rfl) (AllL.cons_ (rfl) (AllL.cons_ (rfl) (AllL.cons_ (rfl) trivial))))) (AllL.cons_ FK2 (AllL.cons_ FK2 trivial)) ?_
       exact hKj1 _ _ ⟨d, es, rfl, rfl, hok, hdn, (by omega), hs, hes⟩
      · -- cond 103 f
       have e103 : (k102 : Int) ≠ 0 := beq_eq_false_iff_ne.1 h103
       refine At.seqJ (fun fr H => ∃ (bb : Bool), fr = frOf [(0, iV (n : Int)), (1, .slice A nr c), (7, ptr b0 0), (8, iV 0), (9, ptr bw 0), (10, iV (k : Int)), (11, ptr b11 0), (12, ptr bc97 0), (102, iV (k102 : Int)), (129, .bool bb)] ∧ H = famsOf (hOf [(0, ⟨false, b, q, 0, encs ActN L, 0⟩), (11, ⟨true, b11, 0, 40, [iV x.w, iV x.i, iV x.n, .slice x.B.A x.B.l.length x.B.c], 0⟩), (97, (DM.row d true bc97 bcs97 cc97)), (100, (DM.row d true b0 b1 n)), (101, (rowS true b1 d.S 0)), (102, ⟨true, bw, 0, 46, [.slice Aw n cw, .bool d.off, iV d.till, iV (d.torn : Int), iV d.wr], 0⟩), (103, ⟨true, bS, 0, 27, (es).map BG.v, cw - n⟩), (400, pRow x.B.b x.B.q x.B.l), (1097, (rowS true bcs97 d.S ((cc97 - d.n) * 64)))]) [famG 100000 5 es, famR 100001 (L.map ActE.B)] ∧ True) ?_ ?_
       ·
        intro Kj2 hKj2
        refine At.seqJ (fun fr H => ∃ (bb : Bool), fr = frOf [(0, iV (n : Int)), (1, .slice A nr c), (7, ptr b0 0), (8, iV 0), (9, ptr bw 0), (10, iV (k : Int)), (11, ptr b11 0), (12, ptr bc97 0), (102, iV (k102 : Int)), (129, .bool bb)] ∧ H = famsOf (hOf [(0, ⟨false, b, q, 0, encs ActN L, 0⟩), (11, ⟨true, b11, 0, 40, [iV x.w, iV x.i, iV x.n, .slice x.B.A x.B.l.length x.B.c], 0⟩), (97, (DM.row d true bc97 bcs97 cc97)), (100, (DM.row d true b0 b1 n)), (101, (rowS true b1 d.S 0)), (102, ⟨true, bw, 0, 46, [.slice Aw n cw, .bool d.off, iV d.till, iV (d.torn : Int), iV d.wr], 0⟩), (103, ⟨true, bS, 0, 27, (es).map BG.v, cw - n⟩), (400, pRow x.B.b x.B.q x.B.l), (1097, (rowS true bcs97 d.S ((cc97 - d.n) * 64)))]) [famG 100000 5 es, famR 100001 (L.map ActE.B)] ∧ True) ?_ ?_
        ·
         intro Kj3 hKj3
         refine At.region ?_
         refine At.p (some 130) (P_cmp rfl rfl rfl rfl rfl rfl) ?_
         refine At.p (some 129) (P_assign rfl rfl) ?_
         refine At.nil ?_
         refine At.next ?_
         refine At.toM [(0, _), (1, _), (7, _), (8, _), (9, _), (10, _), (11, _), (12, _), (102, _), (129, _)] [(0, _), (11, _), (97, _), (100, _), (101, _), (102, _), (103, _), (400, _), (1097, _)] [famG 100000 5 es, famR 100001 (L.map ActE.B)] (AllL.cons_ (rfl) (AllL.cons_ (rfl) (AllL.cons_ (rfl) (AllL.cons_ (rfl) (AllL.cons_ (rfl) (AllL.cons_ (rfl) (AllL.cons_ (rfl) (AllL.cons_ (rfl) (AllL.cons_ (rfl) (AllL.cons_ (rfl) trivial)))))))))) (AllL.cons_ (rfl) (AllL.cons_ (rfl) (AllL.cons_ (rfl) (AllL.cons_ (rfl) (AllL.cons_ (rfl) (AllL.cons_ (rfl) (AllL.cons_ (rfl) (AllL.cons_ (rfl) (AllL.cons_ (rfl) trivial))))))))) (AllL.cons_ FK2 (AllL.cons_ FK2 trivial)) ?_
         exact hKj3 _ _ ⟨((k102 : Int) == 1), rfl, rfl, trivial⟩
        ·
         rintro fr H ⟨bb, rfl, rfl, -⟩
         refine At.cond rfl (fun h129 => ?_) (fun h129 => ?_)
         · -- cond 129 t
          have e129 : bb = true := h129
          refine At.skip ?_
          refine At.next ?_
          refine At.toM [(0, _), (1, _), (7, _), (8, _), (9, _), (10, _), (11, _), (12, _), (102, _), (129, _)] [(0, _), (11, _), (97, _), (100, _), (101, _), (102, _), (103, _), (400, _), (1097, _)] [famG 100000 5 es, famR 100001 (L.map ActE.B)] (AllL.cons_ (rfl) (AllL.cons_ (rfl) (AllL.cons_ (rfl) (AllL.cons_ (rfl) (AllL.cons_ (rfl) (AllL.cons_ (rfl) (AllL.cons_ (rfl) (AllL.cons_ (rfl) (AllL.cons_ (rfl) (AllL.cons_ (rfl) trivial)))))))))) (AllL.cons_ (rfl) (AllL.cons_ (rfl) (AllL.cons_ (rfl) (AllL.cons_ (rfl) (AllL.cons_ (rfl) (AllL.cons_ (rfl) (AllL.cons_ (rfl) (AllL.cons_ (rfl) (AllL.cons_ (rfl) trivial))))))))) (AllL.cons_ FK2 (AllL.cons_ FK2 trivial)) ?_
          exact hKj2 _ _ ⟨bb, rfl, rfl, trivial⟩
         · -- cond 129 f
          have e129 : bb = false := h129
          refine At.seqJ (fun fr H => ∃ (bb : Bool), fr = frOf [(0, iV (n : Int)), (1, .slice A nr c), (7, ptr b0 0), (8, iV 0), (9, ptr bw 0), (10, iV (k : Int)), (11, ptr b11 0), (12, ptr bc97 0), (102, iV (k102 : Int)), (129, .bool bb)] ∧ H = famsOf (hOf [(0, ⟨false, b, q, 0, encs ActN L, 0⟩), (11, ⟨true, b11, 0, 40, [iV x.w, iV x.i, iV x.n, .slice x.B.A x.B.l.length x.B.c], 0⟩), (97, (DM.row d true bc97 bcs97 cc97)), (100, (DM.row d true b0 b1 n)), (101, (rowS true b1 d.S 0)), (102, ⟨true, bw, 0, 46, [.slice Aw n cw, .bool d.off, iV d.till, iV (d.torn : Int), iV d.wr], 0⟩), (103, ⟨true, bS, 0, 27, (es).map BG.v, cw - n⟩), (400, pRow x.B.b x.B.q x.B.l), (1097, (rowS true bcs97 d.S ((cc97 - d.n) * 64)))]) [famG 100000 5 es, famR 100001 (L.map ActE.B)] ∧ True) ?_ ?_
          ·
           intro Kj4 hKj4
           refine At.region ?_
           refine At.p (some 131) (P_cmp rfl rfl rfl rfl rfl rfl) ?_
           refine At.p (some 129) (P_assign rfl rfl) ?_
           refine At.nil ?_
           refine At.next ?_
           refine At.toM [(0, _), (1, _), (7, _), (8, _), (9, _), (10, _), (11, _), (12, _), (102, _), (129, _)] [(0, _), (11, _), (97, _), (100, _), (101, _), (102, _), (103, _), (400, _), (1097, _)] [famG 100000 5 es, famR 100001 (L.map ActE.B)] (AllL.cons_ (rfl) (AllL.cons_ (rfl) (AllL.cons_ (rfl) (AllL.cons_ (rfl) (AllL.cons_ (rfl) (AllL.cons_ (rfl) (AllL.cons_ (rfl) (AllL.cons_ (rfl) (AllL.cons_ (rfl) (AllL.cons_ (rfl) trivial)))))))))) (AllL.cons_ (rfl) (AllL.cons_ (rfl) (AllL.cons_ (rfl) (AllL.cons_ (rfl) (AllL.cons_ (rfl) (AllL.cons_ (rfl) (AllL.cons_ (rfl) (AllL.cons_ (rfl) (AllL.cons_ (rfl) trivial))))))))) (AllL.cons_ FK2 (AllL.cons_ FK2 trivial)) ?_
           exact hKj4 _ _ ⟨((k102 : Int) == 2), rfl, rfl, trivial⟩
          ·
           rintro fr H ⟨bb, rfl, rfl, -⟩
           refine At.cond rfl (fun h129 => ?_) (fun h129 => ?_)
           · -- cond 129 t
            have e129 : bb = true := h129
            refine At.skip ?_
            refine At.next ?_
            refine At.toM [(0, _), (1, _), (7, _), (8, _), (9, _), (10, _), (11, _), (12, _), (102, _), (129, _)] [(0, _), (11, _), (97, _), (100, _), (101, _), (102, _), (103, _), (400, _), (1097, _)] [famG 100000 5 es, famR 100001 (L.map ActE.B)] (AllL.cons_ (rfl) (AllL.cons_ (rfl) (AllL.cons_ (rfl) (AllL.cons_ (rfl) (AllL.cons_ (rfl) (AllL.cons_ (rfl) (AllL.cons_ (rfl) (AllL.cons_ (rfl) (AllL.cons_ (rfl) (AllL.cons_ (rfl) trivial)))))))))) (AllL.cons_ (rfl) (AllL.cons_ (rfl) (AllL.cons_ (rfl) (AllL.cons_ (rfl) (AllL.cons_ (rfl) (AllL.cons_ (rfl) (AllL.cons_ (rfl) (AllL.cons_ (rfl) (AllL.cons_ (rfl) trivial))))))))) (AllL.cons_ FK2 (AllL.cons_ FK2 trivial)) ?_
            exact hKj2 _ _ ⟨bb, rfl, rfl, trivial⟩
           · -- cond 129 f
            have e129 : bb = false := h129
            refine At.region ?_
            refine At.p (some 132) (P_cmp rfl rfl rfl rfl rfl rfl) ?_
            refine At.p (some 129) (P_assign rfl rfl) ?_
            refine At.nil ?_
            refine At.next ?_
            refine At.toM [(0, _), (1, _), (7, _), (8, _), (9, _), (10, _), (11, _), (12, _), (102, _), (129, _)] [(0, _), (11, _), (97, _), (100, _), (101, _), (102, _), (103, _), (400, _), (1097, _)] [famG 100000 5 es, famR 100001 (L.map ActE.B)] (AllL.cons_ (rfl) (AllL.cons_ (rfl) (AllL.cons_ (rfl) (AllL.cons_ (rfl) (AllL.cons_ (rfl) (AllL.cons_ (rfl) (AllL.cons_ (rfl) (AllL.cons_ (rfl) (AllL.cons_ (rfl) (AllL.cons_ (rfl) trivial)))))))))) (AllL.cons_ (rfl) (AllL.cons_ (rfl) (AllL.cons_ (rfl) (AllL.cons_ (rfl) (AllL.cons_ (rfl) (AllL.cons_ (rfl) (AllL.cons_ (rfl) (AllL.cons_ (rfl) (AllL.cons_ (rfl) trivial))))))))) (AllL.cons_ FK2 (AllL.cons_ FK2 trivial)) ?_
            exact hKj2 _ _ ⟨((k102 : Int) == 3), rfl, rfl, trivial⟩
       ·
        rintro fr H ⟨bb, rfl, rfl, -⟩
        refine At.cond rfl (fun h129 => ?_) (fun h129 => ?_)
        · -- cond 129 t
         have e129 : bb = true := h129
         refine At.seq ?_
         refine At.bBruteG [8, 14] (fun fr H => ∃ (b133 : Nat) (A141 : Option Addr) (b141 c141 : Nat) (A147 : Option Addr) (b147 c147 : Nat), fr = frOf [(0, iV (n : Int)), (1, .slice A nr c), (7, ptr b0 0), (8, iV 0), (9, ptr bw 0), (10, iV (k : Int)), (11, ptr b11 0), (12, ptr bc97 0), (17, .slice A147 (((x.B.l.take ((min x.B.l.length 64) - 0)) ++ List.replicate (max (64 - x.B.l.length) 0) 0#8).length) c147)] ∧ H = famsOf (hOf [(0, ⟨false, b, q, 0, encs ActN L, 0⟩), (11, ⟨true, b11, 0, 40, [iV x.w, iV x.i, iV x.n, .slice x.B.A x.B.l.length x.B.c], 0⟩), (97, (DM.row d true bc97 bcs97 cc97)), (100, (DM.row d true b0 b1 n)), (101, (rowS true b1 d.S 0)), (102, ⟨true, bw, 0, 46, [.slice Aw n cw, .bool d.off, iV d.till, iV (d.torn : Int), iV d.wr], 0⟩), (103, ⟨true, bS, 0, 27, (es).map BG.v, cw - n⟩), (133, ⟨true, b147, 0, 5, (((x.B.l.take ((min x.B.l.length 64) - 0)) ++ List.replicate (max (64 - x.B.l.length) 0) 0#8)).map u8V, c147 - (((x.B.l.take ((min x.B.l.length 64) - 0)) ++ List.replicate (max (64 - x.B.l.length) 0) 0#8)).length⟩), (400, pRow x.B.b x.B.q x.B.l), (1097, (rowS true bcs97 d.S ((cc97 - d.n) * 64)))]) [famG 100000 5 es, famR 100001 (L.map ActE.B)] ∧ (0 < c141 → A141 = some ⟨b141, 0, none⟩) ∧ ((x.B.l.take ((min x.B.l.length 64) - 0)).length ≤ c141) ∧ (0 < c147 → A147 = some ⟨b147, 0, none⟩) ∧ (((x.B.l.take ((min x.B.l.length 64) - 0)) ++ List.replicate (max (64 - x.B.l.length) 0) 0#8).length ≤ c147) ∧ True) (by kernel_rfl) ?_ ?_
         ·
          intro Kb hKb G hGi hGo
          have hG24_0 (b133 : Nat) (A141 : Option Addr) (b141 c141 : Nat) (A147 : Option Addr) (b147 c147 : Nat) (g141a : 0 < c141 → A141 = some ⟨b141, 0, none⟩) (g141b : (x.B.l.take ((min x.B.l.length 64) - 0)).length ≤ c141) (g147a : 0 < c147 → A147 = some ⟨b147, 0, none⟩) (g147b : ((x.B.l.take ((min x.B.l.length 64) - 0)) ++ List.replicate (max (64 - x.B.l.length) 0) 0#8).length ≤ c147) : G 0 #[true, true, true, true, true, true, true, true, true, true, true, true, true, true, true, true] (frOf [(0, iV (n : Int)), (1, .slice A nr c), (7, ptr b0 0), (8, iV 0), (9, ptr bw 0), (10, iV (k : Int)), (11, ptr b11 0), (12, ptr bc97 0), (17, .slice A147 (((x.B.l.take ((min x.B.l.length 64) - 0)) ++ List.replicate (max (64 - x.B.l.length) 0) 0#8).length) c147)]) (famsOf (hOf [(0, ⟨false, b, q, 0, encs ActN L, 0⟩), (11, ⟨true, b11, 0, 40, [iV x.w, iV x.i, iV x.n, .slice x.B.A x.B.l.length x.B.c], 0⟩), (97, (DM.row d true bc97 bcs97 cc97)), (100, (DM.row d true b0 b1 n)), (101, (rowS true b1 d.S 0)), (102, ⟨true, bw, 0, 46, [.slice Aw n cw, .bool d.off, iV d.till, iV (d.torn : Int), iV d.wr], 0⟩), (103, ⟨true, bS, 0, 27, (es).map BG.v, cw - n⟩), (133, ⟨true, b147, 0, 5, (((x.B.l.take ((min x.B.l.length 64) - 0)) ++ List.replicate (max (64 - x.B.l.length) 0) 0#8)).map u8V, c147 - (((x.B.l.take ((min x.B.l.length 64) - 0)) ++ List.replicate (max (64 - x.B.l.length) 0) 0#8)).length⟩), (400, pRow x.B.b x.B.q x.B.l), (1097, (rowS true bcs97 d.S ((cc97 - d.n) * 64)))]) [famG 100000 5 es, famR 100001 (L.map ActE.B)]) := by
           refine hGo ?_
           refine At.bEnd (by kernel_rfl) ?_
           refine At.next ?_
           exact hKb _ _ ⟨b133, A141, b141, c141, A147, b147, c147, rfl, rfl, g141a, g141b, g147a, g147b, trivial⟩
          have hG24_1 (b133 : Nat) (A141 : Option Addr) (b141 c141 : Nat) (g141a : 0 < c141 → A141 = some ⟨b141, 0, none⟩) (g141b : (x.B.l.take ((min x.B.l.length 64) - 0)).length ≤ c141) : G 2 #[true, true, true, true, true, true, true, true, true, true, true, true, true, true, false, false] (frOf [(0, iV (n : Int)), (1, .slice A nr c), (7, ptr b0 0), (8, iV 0), (9, ptr bw 0), (10, iV (k : Int)), (11, ptr b11 0), (12, ptr bc97 0), (141, .slice A141 ((x.B.l.take ((min x.B.l.length 64) - 0)).length) c141), (146, iV (max (64 - (x.B.l.length : Int)) 0))]) (famsOf (hOf [(0, ⟨false, b, q, 0, encs ActN L, 0⟩), (11, ⟨true, b11, 0, 40, [iV x.w, iV x.i, iV x.n, .slice x.B.A x.B.l.length x.B.c], 0⟩), (97, (DM.row d true bc97 bcs97 cc97)), (100, (DM.row d true b0 b1 n)), (101, (rowS true b1 d.S 0)), (102, ⟨true, bw, 0, 46, [.slice Aw n cw, .bool d.off, iV d.till, iV (d.torn : Int), iV d.wr], 0⟩), (103, ⟨true, bS, 0, 27, (es).map BG.v, cw - n⟩), (133, ⟨true, b141, 0, 5, ((x.B.l.take ((min x.B.l.length 64) - 0))).map u8V, c141 - ((x.B.l.take ((min x.B.l.length 64) - 0))).length⟩), (400, pRow x.B.b x.B.q x.B.l), (1097, (rowS true bcs97 d.S ((cc97 - d.n) * 64)))]) [famG 100000 5 es, famR 100001 (L.map ActE.B)]) := by
           refine hGo ?_
           refine At.bStep [14] (by kernel_rfl) (by simp) ?_
           refine At.bS true (by kernel_rfl) (S_appendZ (some 147) 133 (((x.B.l.take ((min x.B.l.length 64) - 0)) ++ List.replicate (max (64 - x.B.l.length) 0) 0#8)) (0#8) (f := u8V) (l := (x.B.l.take ((min x.B.l.length 64) - 0))) (m := (max (64 - x.B.l.length) 0)) rfl Try.underlying27 Try.underlying3 sz5 by5 ze5 rfl rfl (fun h => ⟨g141a h, rfl⟩) LN OG rfl RO (fun _ => rfl) OG OG rfl ?_)
           intro A147 b147 c147 g147a g147b
           refine At.bP  15 (some 17) (P_assign rfl rfl) (by kernel_rfl) (by kernel_rfl) ?_
           exact At.intoF (hGi (hG24_0 b133 A141 b141 c141 A147 b147 c147 g141a g141b g147a g147b)) rfl rfl (AllL.cons_ FK2 (AllL.cons_ FK2 trivial))
          have hG24_2 (b133 : Nat) : G 3 #[true, true, true, true, true, true, true, true, false, true, true, true, true, true, false, false] (frOf [(0, iV (n : Int)), (1, .slice A nr c), (7, ptr b0 0), (8, iV 0), (9, ptr bw 0), (10, iV (k : Int)), (11, ptr b11 0), (12, ptr bc97 0), (133, .slice (some ⟨b133, 0, none⟩) 0 0), (140, .slice (cut x.B.A 0 x.B.c 1) ((min x.B.l.length 64) - 0) (x.B.c - 0)), (146, iV (max (64 - (x.B.l.length : Int)) 0))]) (famsOf (hOf [(0, ⟨false, b, q, 0, encs ActN L, 0⟩), (11, ⟨true, b11, 0, 40, [iV x.w, iV x.i, iV x.n, .slice x.B.A x.B.l.length x.B.c], 0⟩), (97, (DM.row d true bc97 bcs97 cc97)), (100, (DM.row d true b0 b1 n)), (101, (rowS true b1 d.S 0)), (102, ⟨true, bw, 0, 46, [.slice Aw n cw, .bool d.off, iV d.till, iV (d.torn : Int), iV d.wr], 0⟩), (103, ⟨true, bS, 0, 27, (es).map BG.v, cw - n⟩), (133, ⟨true, b133, 0, 5, ([]).map u8V, 0⟩), (400, pRow x.B.b x.B.q x.B.l), (1097, (rowS true bcs97 d.S ((cc97 - d.n) * 64)))]) [famG 100000 5 es, famR 100001 (L.map ActE.B)]) := by
           clear hG24_0
           refine hGo ?_
           refine At.bStep [8] (by kernel_rfl) (by simp) ?_
           refine At.bS true (by kernel_rfl) (S_appendM (some 141) 133 ((x.B.l.take ((min x.B.l.length 64) - 0))) (f := u8V) (l := []) (L := (x.B.l.take ((min x.B.l.length 64) - 0))) (m := ((min x.B.l.length 64) - 0)) rfl Try.underlying27 Try.underlying27 (.inr ⟨_, rfl⟩) sz5 by5 ze5 rfl rfl (fun h => ⟨rfl, rfl⟩) LN OG (Src.part (k := 400) (j := 0) (l := x.B.l) rfl (fun h => cut_zero ((fun h => BG.adrR hxo (by omega)) (by omega))) (fun _ => ⟨rfl, rfl, (Nat.add_zero _)⟩) OG) (fun _ => rfl) OG OG rfl LN ?_)
           intro A141 b141 c141 g141a g141b
           exact At.intoF (hGi (hG24_1 b133 A141 b141 c141 g141a g141b)) rfl rfl (AllL.cons_ FK2 (AllL.cons_ FK2 trivial))
          have hG24_3  : G 4 #[false, true, true, true, true, true, true, true, false, true, true, true, true, true, false, false] (frOf [(0, iV (n : Int)), (1, .slice A nr c), (7, ptr b0 0), (8, iV 0), (9, ptr bw 0), (10, iV (k : Int)), (11, ptr b11 0), (12, ptr bc97 0), (140, .slice (cut x.B.A 0 x.B.c 1) ((min x.B.l.length 64) - 0) (x.B.c - 0)), (146, iV (max (64 - (x.B.l.length : Int)) 0))]) (famsOf (hOf [(0, ⟨false, b, q, 0, encs ActN L, 0⟩), (11, ⟨true, b11, 0, 40, [iV x.w, iV x.i, iV x.n, .slice x.B.A x.B.l.length x.B.c], 0⟩), (97, (DM.row d true bc97 bcs97 cc97)), (100, (DM.row d true b0 b1 n)), (101, (rowS true b1 d.S 0)), (102, ⟨true, bw, 0, 46, [.slice Aw n cw, .bool d.off, iV d.till, iV (d.torn : Int), iV d.wr], 0⟩), (103, ⟨true, bS, 0, 27, (es).map BG.v, cw - n⟩), (400, pRow x.B.b x.B.q x.B.l), (1097, (rowS true bcs97 d.S ((cc97 - d.n) * 64)))]) [famG 100000 5 es, famR 100001 (L.map ActE.B)]) := by
           clear hG24_0 hG24_1
           refine hGo ?_
           refine At.bStep [0] (by kernel_rfl) (by simp) ?_
           refine At.bS false (by kernel_rfl) (S_buildSlice0 (some 133) 133 rfl Try.underlying27 sz5 (fun b133 => ?_))
           exact At.intoF (hGi (hG24_2 b133)) rfl rfl (AllL.cons_ FK2 (AllL.cons_ FK2 trivial))
          have hG24_4 (b133 : Nat) : G 5 #[true, true, false, true, true, true, true, false, false, true, true, true, true, true, false, false] (frOf [(0, iV (n : Int)), (1, .slice A nr c), (7, ptr b0 0), (8, iV 0), (9, ptr bw 0), (10, iV (k : Int)), (11, ptr b11 0), (12, ptr bc97 0), (133, .slice (some ⟨b133, 0, none⟩) 0 0), (134, ptr b11 3), (139, iV (min (x.B.l.length : Int) 64)), (146, iV (max (64 - (x.B.l.length : Int)) 0))]) (famsOf (hOf [(0, ⟨false, b, q, 0, encs ActN L, 0⟩), (11, ⟨true, b11, 0, 40, [iV x.w, iV x.i, iV x.n, .slice x.B.A x.B.l.length x.B.c], 0⟩), (97, (DM.row d true bc97 bcs97 cc97)), (100, (DM.row d true b0 b1 n)), (101, (rowS true b1 d.S 0)), (102, ⟨true, bw, 0, 46, [.slice Aw n cw, .bool d.off, iV d.till, iV (d.torn : Int), iV d.wr], 0⟩), (103, ⟨true, bS, 0, 27, (es).map BG.v, cw - n⟩), (133, ⟨true, b133, 0, 5, ([]).map u8V, 0⟩), (400, pRow x.B.b x.B.q x.B.l), (1097, (rowS true bcs97 d.S ((cc97 - d.n) * 64)))]) [famG 100000 5 es, famR 100001 (L.map ActE.B)]) := by
           clear hG24_0 hG24_1 hG24_3
           refine hGo ?_
           refine At.bStep [2] (by kernel_rfl) (by simp) ?_
           refine At.bSQ (some 135) (Q_loadO (k := 11) rfl rfl Try.underlying27 rfl rfl rfl) ?_
           refine At.bP  7 (some 140) (P_slice_sl (l := 0) (h := (min x.B.l.length 64)) (m := x.B.c) rfl Try.underlying27 sz5 rfl rfl ⟨_, _, rfl, by omega⟩ rfl DO DO DO) (by kernel_rfl) (by kernel_rfl) ?_
           exact At.intoF (hGi (hG24_2 b133)) rfl rfl (AllL.cons_ FK2 (AllL.cons_ FK2 trivial))
          have hG24_5 (b133 : Nat) (A141 : Option Addr) (b141 c141 : Nat) (g141a : 0 < c141 → A141 = some ⟨b141, 0, none⟩) (g141b : (x.B.l.take ((min x.B.l.length 64) - 0)).length ≤ c141) : G 6 #[true, true, true, true, true, true, true, true, true, true, false, false, false, false, false, false] (frOf [(0, iV (n : Int)), (1, .slice A nr c), (7, ptr b0 0), (8, iV 0), (9, ptr bw 0), (10, iV (k : Int)), (11, ptr b11 0), (12, ptr bc97 0), (141, .slice A141 ((x.B.l.take ((min x.B.l.length 64) - 0)).length) c141), (142, ptr b11 3)]) (famsOf (hOf [(0, ⟨false, b, q, 0, encs ActN L, 0⟩), (11, ⟨true, b11, 0, 40, [iV x.w, iV x.i, iV x.n, .slice x.B.A x.B.l.length x.B.c], 0⟩), (97, (DM.row d true bc97 bcs97 cc97)), (100, (DM.row d true b0 b1 n)), (101, (rowS true b1 d.S 0)), (102, ⟨true, bw, 0, 46, [.slice Aw n cw, .bool d.off, iV d.till, iV (d.torn : Int), iV d.wr], 0⟩), (103, ⟨true, bS, 0, 27, (es).map BG.v, cw - n⟩), (133, ⟨true, b141, 0, 5, ((x.B.l.take ((min x.B.l.length 64) - 0))).map u8V, c141 - ((x.B.l.take ((min x.B.l.length 64) - 0))).length⟩), (400, pRow x.B.b x.B.q x.B.l), (1097, (rowS true bcs97 d.S ((cc97 - d.n) * 64)))]) [famG 100000 5 es, famR 100001 (L.map ActE.B)]) := by
           clear hG24_0 hG24_2 hG24_3 hG24_4
           refine hGo ?_
           refine At.bStep [10] (by kernel_rfl) (by simp) ?_
           refine At.bSQ (some 143) (Q_loadO (k := 11) rfl rfl Try.underlying27 rfl rfl rfl) ?_
           refine At.bP  11 (some 144) (P_len_sl rfl rfl ⟨_, Try.underlying27⟩ rfl) (by kernel_rfl) (by kernel_rfl) ?_
           refine At.bP  12 (some 145) (P_sub_i rfl rfl rfl (by omega)) (by kernel_rfl) (by kernel_rfl) ?_
           refine At.bP  13 (some 146) (P_max2 rfl rfl rfl rfl) (by kernel_rfl) (by kernel_rfl) ?_
           exact At.intoF (hGi (hG24_1 b133 A141 b141 c141 g141a g141b)) rfl rfl (AllL.cons_ FK2 (AllL.cons_ FK2 trivial))
          have hG24_6  : G 6 #[false, true, false, true, true, true, true, false, false, true, true, true, true, true, false, false] (frOf [(0, iV (n : Int)), (1, .slice A nr c), (7, ptr b0 0), (8, iV 0), (9, ptr bw 0), (10, iV (k : Int)), (11, ptr b11 0), (12, ptr bc97 0), (134, ptr b11 3), (139, iV (min (x.B.l.length : Int) 64)), (146, iV (max (64 - (x.B.l.length : Int)) 0))]) (famsOf (hOf [(0, ⟨false, b, q, 0, encs ActN L, 0⟩), (11, ⟨true, b11, 0, 40, [iV x.w, iV x.i, iV x.n, .slice x.B.A x.B.l.length x.B.c], 0⟩), (97, (DM.row d true bc97 bcs97 cc97)), (100, (DM.row d true b0 b1 n)), (101, (rowS true b1 d.S 0)), (102, ⟨true, bw, 0, 46, [.slice Aw n cw, .bool d.off, iV d.till, iV (d.torn : Int), iV d.wr], 0⟩), (103, ⟨true, bS, 0, 27, (es).map BG.v, cw - n⟩), (400, pRow x.B.b x.B.q x.B.l), (1097, (rowS true bcs97 d.S ((cc97 - d.n) * 64)))]) [famG 100000 5 es, famR 100001 (L.map ActE.B)]) := by
           clear hG24_0 hG24_1 hG24_2 hG24_5
           refine hGo ?_
           refine At.bStep [0, 2] (by kernel_rfl) (by simp) ?_
           refine ⟨?_, ?_⟩
           ·
            refine At.bS false (by kernel_rfl) (S_buildSlice0 (some 133) 133 rfl Try.underlying27 sz5 (fun b133 => ?_))
            exact At.intoF (hGi (hG24_4 b133)) rfl rfl (AllL.cons_ FK2 (AllL.cons_ FK2 trivial))
           ·
            refine At.bSQ (some 135) (Q_loadO (k := 11) rfl rfl Try.underlying27 rfl rfl rfl) ?_
            refine At.bP  7 (some 140) (P_slice_sl (l := 0) (h := (min x.B.l.length 64)) (m := x.B.c) rfl Try.underlying27 sz5 rfl rfl ⟨_, _, rfl, by omega⟩ rfl DO DO DO) (by kernel_rfl) (by kernel_rfl) ?_
            exact At.intoF (hGi (hG24_3 )) rfl rfl (AllL.cons_ FK2 (AllL.cons_ FK2 trivial))
          have hG24_7 (b133 : Nat) : G 7 #[true, true, true, true, true, true, true, true, false, true, false, false, false, false, false, false] (frOf [(0, iV (n : Int)), (1, .slice A nr c), (7, ptr b0 0), (8, iV 0), (9, ptr bw 0), (10, iV (k : Int)), (11, ptr b11 0), (12, ptr bc97 0), (133, .slice (some ⟨b133, 0, none⟩) 0 0), (140, .slice (cut x.B.A 0 x.B.c 1) ((min x.B.l.length 64) - 0) (x.B.c - 0)), (142, ptr b11 3)]) (famsOf (hOf [(0, ⟨false, b, q, 0, encs ActN L, 0⟩), (11, ⟨true, b11, 0, 40, [iV x.w, iV x.i, iV x.n, .slice x.B.A x.B.l.length x.B.c], 0⟩), (97, (DM.row d true bc97 bcs97 cc97)), (100, (DM.row d true b0 b1 n)), (101, (rowS true b1 d.S 0)), (102, ⟨true, bw, 0, 46, [.slice Aw n cw, .bool d.off, iV d.till, iV (d.torn : Int), iV d.wr], 0⟩), (103, ⟨true, bS, 0, 27, (es).map BG.v, cw - n⟩), (133, ⟨true, b133, 0, 5, ([]).map u8V, 0⟩), (400, pRow x.B.b x.B.q x.B.l), (1097, (rowS true bcs97 d.S ((cc97 - d.n) * 64)))]) [famG 100000 5 es, famR 100001 (L.map ActE.B)]) := by
           clear hG24_0 hG24_1 hG24_3 hG24_4 hG24_6
           refine hGo ?_
           refine At.bStep [8, 10] (by kernel_rfl) (by simp) ?_
           refine ⟨?_, ?_⟩
           ·
            refine At.bS true (by kernel_rfl) (S_appendM (some 141) 133 ((x.B.l.take ((min x.B.l.length 64) - 0))) (f := u8V) (l := []) (L := (x.B.l.take ((min x.B.l.length 64) - 0))) (m := ((min x.B.l.length 64) - 0)) rfl Try.underlying27 Try.underlying27 (.inr ⟨_, rfl⟩) sz5 by5 ze5 rfl rfl (fun h => ⟨rfl, rfl⟩) LN OG (Src.part (k := 400) (j := 0) (l := x.B.l) rfl (fun h => cut_zero ((fun h => BG.adrR hxo (by omega)) (by omega))) (fun _ => ⟨rfl, rfl, (Nat.add_zero _)⟩) OG) (fun _ => rfl) OG OG rfl LN ?_)
            intro A141 b141 c141 g141a g141b
            exact At.intoF (hGi (hG24_5 b133 A141 b141 c141 g141a g141b)) rfl rfl (AllL.cons_ FK2 (AllL.cons_ FK2 trivial))
           ·
            refine At.bSQ (some 143) (Q_loadO (k := 11) rfl rfl Try.underlying27 rfl rfl rfl) ?_
            refine At.bP  11 (some 144) (P_len_sl rfl rfl ⟨_, Try.underlying27⟩ rfl) (by kernel_rfl) (by kernel_rfl) ?_
            refine At.bP  12 (some 145) (P_sub_i rfl rfl rfl (by omega)) (by kernel_rfl) (by kernel_rfl) ?_
            refine At.bP  13 (some 146) (P_max2 rfl rfl rfl rfl) (by kernel_rfl) (by kernel_rfl) ?_
            exact At.intoF (hGi (hG24_2 b133)) rfl rfl (AllL.cons_ FK2 (AllL.cons_ FK2 trivial))
          have hG24_8 (b133 : Nat) : G 7 #[true, true, true, true, false, false, false, false, false, true, true, true, true, true, false, false] (frOf [(0, iV (n : Int)), (1, .slice A nr c), (7, ptr b0 0), (8, iV 0), (9, ptr bw 0), (10, iV (k : Int)), (11, ptr b11 0), (12, ptr bc97 0), (133, .slice (some ⟨b133, 0, none⟩) 0 0), (135, .slice x.B.A x.B.l.length x.B.c), (136, ptr b11 3), (146, iV (max (64 - (x.B.l.length : Int)) 0))]) (famsOf (hOf [(0, ⟨false, b, q, 0, encs ActN L, 0⟩), (11, ⟨true, b11, 0, 40, [iV x.w, iV x.i, iV x.n, .slice x.B.A x.B.l.length x.B.c], 0⟩), (97, (DM.row d true bc97 bcs97 cc97)), (100, (DM.row d true b0 b1 n)), (101, (rowS true b1 d.S 0)), (102, ⟨true, bw, 0, 46, [.slice Aw n cw, .bool d.off, iV d.till, iV (d.torn : Int), iV d.wr], 0⟩), (103, ⟨true, bS, 0, 27, (es).map BG.v, cw - n⟩), (133, ⟨true, b133, 0, 5, ([]).map u8V, 0⟩), (400, pRow x.B.b x.B.q x.B.l), (1097, (rowS true bcs97 d.S ((cc97 - d.n) * 64)))]) [famG 100000 5 es, famR 100001 (L.map ActE.B)]) := by
           clear hG24_0 hG24_1 hG24_3 hG24_4 hG24_5 hG24_6 hG24_7
           refine hGo ?_
           refine At.bStep [4] (by kernel_rfl) (by simp) ?_
           refine At.bSQ (some 137) (Q_loadO (k := 11) rfl rfl Try.underlying27 rfl rfl rfl) ?_
           refine At.bP  5 (some 138) (P_len_sl rfl rfl ⟨_, Try.underlying27⟩ rfl) (by kernel_rfl) (by kernel_rfl) ?_
           refine At.bP  6 (some 139) (P_min2 rfl rfl rfl rfl) (by kernel_rfl) (by kernel_rfl) ?_
           refine At.bP  7 (some 140) (P_slice_sl (l := 0) (h := (min x.B.l.length 64)) (m := x.B.c) rfl Try.underlying27 sz5 rfl rfl ⟨_, _, rfl, by omega⟩ rfl DO DO DO) (by kernel_rfl) (by kernel_rfl) ?_
           exact At.intoF (hGi (hG24_2 b133)) rfl rfl (AllL.cons_ FK2 (AllL.cons_ FK2 trivial))
          have hG24_9 (b133 : Nat) : G 8 #[true, true, false, true, false, false, false, false, false, true, true, true, true, true, false, false] (frOf [(0, iV (n : Int)), (1, .slice A nr c), (7, ptr b0 0), (8, iV 0), (9, ptr bw 0), (10, iV (k : Int)), (11, ptr b11 0), (12, ptr bc97 0), (133, .slice (some ⟨b133, 0, none⟩) 0 0), (134, ptr b11 3), (136, ptr b11 3), (146, iV (max (64 - (x.B.l.length : Int)) 0))]) (famsOf (hOf [(0, ⟨false, b, q, 0, encs ActN L, 0⟩), (11, ⟨true, b11, 0, 40, [iV x.w, iV x.i, iV x.n, .slice x.B.A x.B.l.length x.B.c], 0⟩), (97, (DM.row d true bc97 bcs97 cc97)), (100, (DM.row d true b0 b1 n)), (101, (rowS true b1 d.S 0)), (102, ⟨true, bw, 0, 46, [.slice Aw n cw, .bool d.off, iV d.till, iV (d.torn : Int), iV d.wr], 0⟩), (103, ⟨true, bS, 0, 27, (es).map BG.v, cw - n⟩), (133, ⟨true, b133, 0, 5, ([]).map u8V, 0⟩), (400, pRow x.B.b x.B.q x.B.l), (1097, (rowS true bcs97 d.S ((cc97 - d.n) * 64)))]) [famG 100000 5 es, famR 100001 (L.map ActE.B)]) := by
           clear hG24_0 hG24_1 hG24_2 hG24_3 hG24_5 hG24_6 hG24_7
           refine hGo ?_
           refine At.bStep [2, 4] (by kernel_rfl) (by simp) ?_
           refine ⟨?_, ?_⟩
           ·
            refine At.bSQ (some 135) (Q_loadO (k := 11) rfl rfl Try.underlying27 rfl rfl rfl) ?_
            exact At.intoF (hGi (hG24_8 b133)) rfl rfl (AllL.cons_ FK2 (AllL.cons_ FK2 trivial))
           ·
            refine At.bSQ (some 137) (Q_loadO (k := 11) rfl rfl Try.underlying27 rfl rfl rfl) ?_
            refine At.bP  5 (some 138) (P_len_sl rfl rfl ⟨_, Try.underlying27⟩ rfl) (by kernel_rfl) (by kernel_rfl) ?_
            refine At.bP  6 (some 139) (P_min2 rfl rfl rfl rfl) (by kernel_rfl) (by kernel_rfl) ?_
            exact At.intoF (hGi (hG24_4 b133)) rfl rfl (AllL.cons_ FK2 (AllL.cons_ FK2 trivial))
          have hG24_10  : G 8 #[false, true, true, true, true, true, true, true, false, true, false, false, false, false, false, false] (frOf [(0, iV (n : Int)), (1, .slice A nr c), (7, ptr b0 0), (8, iV 0), (9, ptr bw 0), (10, iV (k : Int)), (11, ptr b11 0), (12, ptr bc97 0), (140, .slice (cut x.B.A 0 x.B.c 1) ((min x.B.l.length 64) - 0) (x.B.c - 0)), (142, ptr b11 3)]) (famsOf (hOf [(0, ⟨false, b, q, 0, encs ActN L, 0⟩), (11, ⟨true, b11, 0, 40, [iV x.w, iV x.i, iV x.n, .slice x.B.A x.B.l.length x.B.c], 0⟩), (97, (DM.row d true bc97 bcs97 cc97)), (100, (DM.row d true b0 b1 n)), (101, (rowS true b1 d.S 0)), (102, ⟨true, bw, 0, 46, [.slice Aw n cw, .bool d.off, iV d.till, iV (d.torn : Int), iV d.wr], 0⟩), (103, ⟨true, bS, 0, 27, (es).map BG.v, cw - n⟩), (400, pRow x.B.b x.B.q x.B.l), (1097, (rowS true bcs97 d.S ((cc97 - d.n) * 64)))]) [famG 100000 5 es, famR 100001 (L.map ActE.B)]) := by
           clear hG24_0 hG24_1 hG24_2 hG24_4 hG24_5 hG24_6 hG24_8 hG24_9
           refine hGo ?_
           refine At.bStep [0, 10] (by kernel_rfl) (by simp) ?_
           refine ⟨?_, ?_⟩
           ·
            refine At.bS false (by kernel_rfl) (S_buildSlice0 (some 133) 133 rfl Try.underlying27 sz5 (fun b133 => ?_))
            exact At.intoF (hGi (hG24_7 b133)) rfl rfl (AllL.cons_ FK2 (AllL.cons_ FK2 trivial))
           ·
            refine At.bSQ (some 143) (Q_loadO (k := 11) rfl rfl Try.underlying27 rfl rfl rfl) ?_
            refine At.bP  11 (some 144) (P_len_sl rfl rfl ⟨_, Try.underlying27⟩ rfl) (by kernel_rfl) (by kernel_rfl) ?_
            refine At.bP  12 (some 145) (P_sub_i rfl rfl rfl (by omega)) (by kernel_rfl) (by kernel_rfl) ?_
            refine At.bP  13 (some 146) (P_max2 rfl rfl rfl rfl) (by kernel_rfl) (by kernel_rfl) ?_
            exact At.intoF (hGi (hG24_3 )) rfl rfl (AllL.cons_ FK2 (AllL.cons_ FK2 trivial))
          have hG24_11  : G 8 #[false, true, true, true, false, false, false, false, false, true, true, true, true, true, false, false] (frOf [(0, iV (n : Int)), (1, .slice A nr c), (7, ptr b0 0), (8, iV 0), (9, ptr bw 0), (10, iV (k : Int)), (11, ptr b11 0), (12, ptr bc97 0), (135, .slice x.B.A x.B.l.length x.B.c), (136, ptr b11 3), (146, iV (max (64 - (x.B.l.length : Int)) 0))]) (famsOf (hOf [(0, ⟨false, b, q, 0, encs ActN L, 0⟩), (11, ⟨true, b11, 0, 40, [iV x.w, iV x.i, iV x.n, .slice x.B.A x.B.l.length x.B.c], 0⟩), (97, (DM.row d true bc97 bcs97 cc97)), (100, (DM.row d true b0 b1 n)), (101, (rowS true b1 d.S 0)), (102, ⟨true, bw, 0, 46, [.slice Aw n cw, .bool d.off, iV d.till, iV (d.torn : Int), iV d.wr], 0⟩), (103, ⟨true, bS, 0, 27, (es).map BG.v, cw - n⟩), (400, pRow x.B.b x.B.q x.B.l), (1097, (rowS true bcs97 d.S ((cc97 - d.n) * 64)))]) [famG 100000 5 es, famR 100001 (L.map ActE.B)]) := by
           clear hG24_0 hG24_1 hG24_2 hG24_4 hG24_5 hG24_6 hG24_7 hG24_9 hG24_10
           refine hGo ?_
           refine At.bStep [0, 4] (by kernel_rfl) (by simp) ?_
           refine ⟨?_, ?_⟩
           ·
            refine At.bS false (by kernel_rfl) (S_buildSlice0 (some 133) 133 rfl Try.underlying27 sz5 (fun b133 => ?_))
            exact At.intoF (hGi (hG24_8 b133)) rfl rfl (AllL.cons_ FK2 (AllL.cons_ FK2 trivial))
           ·
            refine At.bSQ (some 137) (Q_loadO (k := 11) rfl rfl Try.underlying27 rfl rfl rfl) ?_
            refine At.bP  5 (some 138) (P_len_sl rfl rfl ⟨_, Try.underlying27⟩ rfl) (by kernel_rfl) (by kernel_rfl) ?_
            refine At.bP  6 (some 139) (P_min2 rfl rfl rfl rfl) (by kernel_rfl) (by kernel_rfl) ?_
            refine At.bP  7 (some 140) (P_slice_sl (l := 0) (h := (min x.B.l.length 64)) (m := x.B.c) rfl Try.underlying27 sz5 rfl rfl ⟨_, _, rfl, by omega⟩ rfl DO DO DO) (by kernel_rfl) (by kernel_rfl) ?_
            exact At.intoF (hGi (hG24_3 )) rfl rfl (AllL.cons_ FK2 (AllL.cons_ FK2 trivial))
          have hG24_12 (b133 : Nat) : G 9 #[true, true, false, true, true, true, true, false, false, true, false, false, false, false, false, false] (frOf [(0, iV (n : Int)), (1, .slice A nr c), (7, ptr b0 0), (8, iV 0), (9, ptr bw 0), (10, iV (k : Int)), (11, ptr b11 0), (12, ptr bc97 0), (133, .slice (some ⟨b133, 0, none⟩) 0 0), (134, ptr b11 3), (139, iV (min (x.B.l.length : Int) 64)), (142, ptr b11 3)]) (famsOf (hOf [(0, ⟨false, b, q, 0, encs ActN L, 0⟩), (11, ⟨true, b11, 0, 40, [iV x.w, iV x.i, iV x.n, .slice x.B.A x.B.l.length x.B.c], 0⟩), (97, (DM.row d true bc97 bcs97 cc97)), (100, (DM.row d true b0 b1 n)), (101, (rowS true b1 d.S 0)), (102, ⟨true, bw, 0, 46, [.slice Aw n cw, .bool d.off, iV d.till, iV (d.torn : Int), iV d.wr], 0⟩), (103, ⟨true, bS, 0, 27, (es).map BG.v, cw - n⟩), (133, ⟨true, b133, 0, 5, ([]).map u8V, 0⟩), (400, pRow x.B.b x.B.q x.B.l), (1097, (rowS true bcs97 d.S ((cc97 - d.n) * 64)))]) [famG 100000 5 es, famR 100001 (L.map ActE.B)]) := by
           clear hG24_0 hG24_1 hG24_2 hG24_3 hG24_5 hG24_6 hG24_8 hG24_9 hG24_10 hG24_11
           refine hGo ?_
           refine At.bStep [2, 10] (by kernel_rfl) (by simp) ?_
           refine ⟨?_, ?_⟩
           ·
            refine At.bSQ (some 135) (Q_loadO (k := 11) rfl rfl Try.underlying27 rfl rfl rfl) ?_
            refine At.bP  7 (some 140) (P_slice_sl (l := 0) (h := (min x.B.l.length 64)) (m := x.B.c) rfl Try.underlying27 sz5 rfl rfl ⟨_, _, rfl, by omega⟩ rfl DO DO DO) (by kernel_rfl) (by kernel_rfl) ?_
            exact At.intoF (hGi (hG24_7 b133)) rfl rfl (AllL.cons_ FK2 (AllL.cons_ FK2 trivial))
           ·
            refine At.bSQ (some 143) (Q_loadO (k := 11) rfl rfl Try.underlying27 rfl rfl rfl) ?_
            refine At.bP  11 (some 144) (P_len_sl rfl rfl ⟨_, Try.underlying27⟩ rfl) (by kernel_rfl) (by kernel_rfl) ?_
            refine At.bP  12 (some 145) (P_sub_i rfl rfl rfl (by omega)) (by kernel_rfl) (by kernel_rfl) ?_
            refine At.bP  13 (some 146) (P_max2 rfl rfl rfl rfl) (by kernel_rfl) (by kernel_rfl) ?_
            exact At.intoF (hGi (hG24_4 b133)) rfl rfl (AllL.cons_ FK2 (AllL.cons_ FK2 trivial))
          have hG24_13  : G 9 #[false, true, false, true, false, false, false, false, false, true, true, true, true, true, false, false] (frOf [(0, iV (n : Int)), (1, .slice A nr c), (7, ptr b0 0), (8, iV 0), (9, ptr bw 0), (10, iV (k : Int)), (11, ptr b11 0), (12, ptr bc97 0), (134, ptr b11 3), (136, ptr b11 3), (146, iV (max (64 - (x.B.l.length : Int)) 0))]) (famsOf (hOf [(0, ⟨false, b, q, 0, encs ActN L, 0⟩), (11, ⟨true, b11, 0, 40, [iV x.w, iV x.i, iV x.n, .slice x.B.A x.B.l.length x.B.c], 0⟩), (97, (DM.row d true bc97 bcs97 cc97)), (100, (DM.row d true b0 b1 n)), (101, (rowS true b1 d.S 0)), (102, ⟨true, bw, 0, 46, [.slice Aw n cw, .bool d.off, iV d.till, iV (d.torn : Int), iV d.wr], 0⟩), (103, ⟨true, bS, 0, 27, (es).map BG.v, cw - n⟩), (400, pRow x.B.b x.B.q x.B.l), (1097, (rowS true bcs97 d.S ((cc97 - d.n) * 64)))]) [famG 100000 5 es, famR 100001 (L.map ActE.B)]) := by
           clear hG24_0 hG24_1 hG24_2 hG24_3 hG24_4 hG24_5 hG24_7 hG24_8 hG24_10 hG24_12
           refine hGo ?_
           refine At.bStep [0, 2, 4] (by kernel_rfl) (by simp) ?_
           refine ⟨?_, ?_, ?_⟩
           ·
            refine At.bS false (by kernel_rfl) (S_buildSlice0 (some 133) 133 rfl Try.underlying27 sz5 (fun b133 => ?_))
            exact At.intoF (hGi (hG24_9 b133)) rfl rfl (AllL.cons_ FK2 (AllL.cons_ FK2 trivial))
           ·
            refine At.bSQ (some 135) (Q_loadO (k := 11) rfl rfl Try.underlying27 rfl rfl rfl) ?_
            exact At.intoF (hGi (hG24_11 )) rfl rfl (AllL.cons_ FK2 (AllL.cons_ FK2 trivial))
           ·
            refine At.bSQ (some 137) (Q_loadO (k := 11) rfl rfl Try.underlying27 rfl rfl rfl) ?_
            refine At.bP  5 (some 138) (P_len_sl rfl rfl ⟨_, Try.underlying27⟩ rfl) (by kernel_rfl) (by kernel_rfl) ?_
            refine At.bP  6 (some 139) (P_min2 rfl rfl rfl rfl) (by kernel_rfl) (by kernel_rfl) ?_
            exact At.intoF (hGi (hG24_6 )) rfl rfl (AllL.cons_ FK2 (AllL.cons_ FK2 trivial))
          have hG24_14  : G 10 #[false, true, false, true, true, true, true, false, false, true, false, false, false, false, false, false] (frOf [(0, iV (n : Int)), (1, .slice A nr c), (7, ptr b0 0), (8, iV 0), (9, ptr bw 0), (10, iV (k : Int)), (11, ptr b11 0), (12, ptr bc97 0), (134, ptr b11 3), (139, iV (min (x.B.l.length : Int) 64)), (142, ptr b11 3)]) (famsOf (hOf [(0, ⟨false, b, q, 0, encs ActN L, 0⟩), (11, ⟨true, b11, 0, 40, [iV x.w, iV x.i, iV x.n, .slice x.B.A x.B.l.length x.B.c], 0⟩), (97, (DM.row d true bc97 bcs97 cc97)), (100, (DM.row d true b0 b1 n)), (101, (rowS true b1 d.S 0)), (102, ⟨true, bw, 0, 46, [.slice Aw n cw, .bool d.off, iV d.till, iV (d.torn : Int), iV d.wr], 0⟩), (103, ⟨true, bS, 0, 27, (es).map BG.v, cw - n⟩), (400, pRow x.B.b x.B.q x.B.l), (1097, (rowS true bcs97 d.S ((cc97 - d.n) * 64)))]) [famG 100000 5 es, famR 100001 (L.map ActE.B)]) := by
           clear hG24_0 hG24_1 hG24_2 hG24_3 hG24_4 hG24_5 hG24_7 hG24_8 hG24_9 hG24_11 hG24_13
           refine hGo ?_
           refine At.bStep [0, 2, 10] (by kernel_rfl) (by simp) ?_
           refine ⟨?_, ?_, ?_⟩
           ·
            refine At.bS false (by kernel_rfl) (S_buildSlice0 (some 133) 133 rfl Try.underlying27 sz5 (fun b133 => ?_))
            exact At.intoF (hGi (hG24_12 b133)) rfl rfl (AllL.cons_ FK2 (AllL.cons_ FK2 trivial))
           ·
            refine At.bSQ (some 135) (Q_loadO (k := 11) rfl rfl Try.underlying27 rfl rfl rfl) ?_
            refine At.bP  7 (some 140) (P_slice_sl (l := 0) (h := (min x.B.l.length 64)) (m := x.B.c) rfl Try.underlying27 sz5 rfl rfl ⟨_, _, rfl, by omega⟩ rfl DO DO DO) (by kernel_rfl) (by kernel_rfl) ?_
            exact At.intoF (hGi (hG24_10 )) rfl rfl (AllL.cons_ FK2 (AllL.cons_ FK2 trivial))
           ·
            refine At.bSQ (some 143) (Q_loadO (k := 11) rfl rfl Try.underlying27 rfl rfl rfl) ?_
            refine At.bP  11 (some 144) (P_len_sl rfl rfl ⟨_, Try.underlying27⟩ rfl) (by kernel_rfl) (by kernel_rfl) ?_
            refine At.bP  12 (some 145) (P_sub_i rfl rfl rfl (by omega)) (by kernel_rfl) (by kernel_rfl) ?_
            refine At.bP  13 (some 146) (P_max2 rfl rfl rfl rfl) (by kernel_rfl) (by kernel_rfl) ?_
            exact At.intoF (hGi (hG24_6 )) rfl rfl (AllL.cons_ FK2 (AllL.cons_ FK2 trivial))
          have hG24_15 (b133 : Nat) : G 11 #[true, true, true, true, false, false, false, false, false, true, false, false, false, false, false, false] (frOf [(0, iV (n : Int)), (1, .slice A nr c), (7, ptr b0 0), (8, iV 0), (9, ptr bw 0), (10, iV (k : Int)), (11, ptr b11 0), (12, ptr bc97 0), (133, .slice (some ⟨b133, 0, none⟩) 0 0), (135, .slice x.B.A x.B.l.length x.B.c), (136, ptr b11 3), (142, ptr b11 3)]) (famsOf (hOf [(0, ⟨false, b, q, 0, encs ActN L, 0⟩), (11, ⟨true, b11, 0, 40, [iV x.w, iV x.i, iV x.n, .slice x.B.A x.B.l.length x.B.c], 0⟩), (97, (DM.row d true bc97 bcs97 cc97)), (100, (DM.row d true b0 b1 n)), (101, (rowS true b1 d.S 0)), (102, ⟨true, bw, 0, 46, [.slice Aw n cw, .bool d.off, iV d.till, iV (d.torn : Int), iV d.wr], 0⟩), (103, ⟨true, bS, 0, 27, (es).map BG.v, cw - n⟩), (133, ⟨true, b133, 0, 5, ([]).map u8V, 0⟩), (400, pRow x.B.b x.B.q x.B.l), (1097, (rowS true bcs97 d.S ((cc97 - d.n) * 64)))]) [famG 100000 5 es, famR 100001 (L.map ActE.B)]) := by
           clear hG24_0 hG24_1 hG24_2 hG24_3 hG24_4 hG24_5 hG24_6 hG24_9 hG24_10 hG24_11 hG24_12 hG24_13 hG24_14
           refine hGo ?_
           refine At.bStep [4, 10] (by kernel_rfl) (by simp) ?_
           refine ⟨?_, ?_⟩
           ·
            refine At.bSQ (some 137) (Q_loadO (k := 11) rfl rfl Try.underlying27 rfl rfl rfl) ?_
            refine At.bP  5 (some 138) (P_len_sl rfl rfl ⟨_, Try.underlying27⟩ rfl) (by kernel_rfl) (by kernel_rfl) ?_
            refine At.bP  6 (some 139) (P_min2 rfl rfl rfl rfl) (by kernel_rfl) (by kernel_rfl) ?_
            refine At.bP  7 (some 140) (P_slice_sl (l := 0) (h := (min x.B.l.length 64)) (m := x.B.c) rfl Try.underlying27 sz5 rfl rfl ⟨_, _, rfl, by omega⟩ rfl DO DO DO) (by kernel_rfl) (by kernel_rfl) ?_
            exact At.intoF (hGi (hG24_7 b133)) rfl rfl (AllL.cons_ FK2 (AllL.cons_ FK2 trivial))
           ·
            refine At.bSQ (some 143) (Q_loadO (k := 11) rfl rfl Try.underlying27 rfl rfl rfl) ?_
            refine At.bP  11 (some 144) (P_len_sl rfl rfl ⟨_, Try.underlying27⟩ rfl) (by kernel_rfl) (by kernel_rfl) ?_
            refine At.bP  12 (some 145) (P_sub_i rfl rfl rfl (by omega)) (by kernel_rfl) (by kernel_rfl) ?_
            refine At.bP  13 (some 146) (P_max2 rfl rfl rfl rfl) (by kernel_rfl) (by kernel_rfl) ?_
            exact At.intoF (hGi (hG24_8 b133)) rfl rfl (AllL.cons_ FK2 (AllL.cons_ FK2 trivial))
          have hG24_16 (b133 : Nat) : G 12 #[true, true, false, true, false, false, false, false, false, true, false, false, false, false, false, false] (frOf [(0, iV (n : Int)), (1, .slice A nr c), (7, ptr b0 0), (8, iV 0), (9, ptr bw 0), (10, iV (k : Int)), (11, ptr b11 0), (12, ptr bc97 0), (133, .slice (some ⟨b133, 0, none⟩) 0 0), (134, ptr b11 3), (136, ptr b11 3), (142, ptr b11 3)]) (famsOf (hOf [(0, ⟨false, b, q, 0, encs ActN L, 0⟩), (11, ⟨true, b11, 0, 40, [iV x.w, iV x.i, iV x.n, .slice x.B.A x.B.l.length x.B.c], 0⟩), (97, (DM.row d true bc97 bcs97 cc97)), (100, (DM.row d true b0 b1 n)), (101, (rowS true b1 d.S 0)), (102, ⟨true, bw, 0, 46, [.slice Aw n cw, .bool d.off, iV d.till, iV (d.torn : Int), iV d.wr], 0⟩), (103, ⟨true, bS, 0, 27, (es).map BG.v, cw - n⟩), (133, ⟨true, b133, 0, 5, ([]).map u8V, 0⟩), (400, pRow x.B.b x.B.q x.B.l), (1097, (rowS true bcs97 d.S ((cc97 - d.n) * 64)))]) [famG 100000 5 es, famR 100001 (L.map ActE.B)]) := by
           clear hG24_0 hG24_1 hG24_2 hG24_3 hG24_4 hG24_5 hG24_6 hG24_7 hG24_8 hG24_10 hG24_11 hG24_13 hG24_14
           refine hGo ?_
           refine At.bStep [2, 4, 10] (by kernel_rfl) (by simp) ?_
           refine ⟨?_, ?_, ?_⟩
           ·
            refine At.bSQ (some 135) (Q_loadO (k := 11) rfl rfl Try.underlying27 rfl rfl rfl) ?_
            exact At.intoF (hGi (hG24_15 b133)) rfl rfl (AllL.cons_ FK2 (AllL.cons_ FK2 trivial))
           ·
            refine At.bSQ (some 137) (Q_loadO (k := 11) rfl rfl Try.underlying27 rfl rfl rfl) ?_
            refine At.bP  5 (some 138) (P_len_sl rfl rfl ⟨_, Try.underlying27⟩ rfl) (by kernel_rfl) (by kernel_rfl) ?_
            refine At.bP  6 (some 139) (P_min2 rfl rfl rfl rfl) (by kernel_rfl) (by kernel_rfl) ?_
            exact At.intoF (hGi (hG24_12 b133)) rfl rfl (AllL.cons_ FK2 (AllL.cons_ FK2 trivial))
           ·
            refine At.bSQ (some 143) (Q_loadO (k := 11) rfl rfl Try.underlying27 rfl rfl rfl) ?_
            refine At.bP  11 (some 144) (P_len_sl rfl rfl ⟨_, Try.underlying27⟩ rfl) (by kernel_rfl) (by kernel_rfl) ?_
            refine At.bP  12 (some 145) (P_sub_i rfl rfl rfl (by omega)) (by kernel_rfl) (by kernel_rfl) ?_
            refine At.bP  13 (some 146) (P_max2 rfl rfl rfl rfl) (by kernel_rfl) (by kernel_rfl) ?_
            exact At.intoF (hGi (hG24_9 b133)) rfl rfl (AllL.cons_ FK2 (AllL.cons_ FK2 trivial))
          have hG24_17  : G 12 #[false, true, true, true, false, false, false, false, false, true, false, false, false, false, false, false] (frOf [(0, iV (n : Int)), (1, .slice A nr c), (7, ptr b0 0), (8, iV 0), (9, ptr bw 0), (10, iV (k : Int)), (11, ptr b11 0), (12, ptr bc97 0), (135, .slice x.B.A x.B.l.length x.B.c), (136, ptr b11 3), (142, ptr b11 3)]) (famsOf (hOf [(0, ⟨false, b, q, 0, encs ActN L, 0⟩), (11, ⟨true, b11, 0, 40, [iV x.w, iV x.i, iV x.n, .slice x.B.A x.B.l.length x.B.c], 0⟩), (97, (DM.row d true bc97 bcs97 cc97)), (100, (DM.row d true b0 b1 n)), (101, (rowS true b1 d.S 0)), (102, ⟨true, bw, 0, 46, [.slice Aw n cw, .bool d.off, iV d.till, iV (d.torn : Int), iV d.wr], 0⟩), (103, ⟨true, bS, 0, 27, (es).map BG.v, cw - n⟩), (400, pRow x.B.b x.B.q x.B.l), (1097, (rowS true bcs97 d.S ((cc97 - d.n) * 64)))]) [famG 100000 5 es, famR 100001 (L.map ActE.B)]) := by
           clear hG24_0 hG24_1 hG24_2 hG24_3 hG24_4 hG24_5 hG24_6 hG24_7 hG24_8 hG24_9 hG24_12 hG24_13 hG24_14 hG24_16
           refine hGo ?_
           refine At.bStep [0, 4, 10] (by kernel_rfl) (by simp) ?_
           refine ⟨?_, ?_, ?_⟩
           ·
            refine At.bS false (by kernel_rfl) (S_buildSlice0 (some 133) 133 rfl Try.underlying27 sz5 (fun b133 => ?_))
            exact At.intoF (hGi (hG24_15 b133)) rfl rfl (AllL.cons_ FK2 (AllL.cons_ FK2 trivial))
           ·
            refine At.bSQ (some 137) (Q_loadO (k := 11) rfl rfl Try.underlying27 rfl rfl rfl) ?_
            refine At.bP  5 (some 138) (P_len_sl rfl rfl ⟨_, Try.underlying27⟩ rfl) (by kernel_rfl) (by kernel_rfl) ?_
            refine At.bP  6 (some 139) (P_min2 rfl rfl rfl rfl) (by kernel_rfl) (by kernel_rfl) ?_
            refine At.bP  7 (some 140) (P_slice_sl (l := 0) (h := (min x.B.l.length 64)) (m := x.B.c) rfl Try.underlying27 sz5 rfl rfl ⟨_, _, rfl, by omega⟩ rfl DO DO DO) (by kernel_rfl) (by kernel_rfl) ?_
            exact At.intoF (hGi (hG24_10 )) rfl rfl (AllL.cons_ FK2 (AllL.cons_ FK2 trivial))
           ·
            refine At.bSQ (some 143) (Q_loadO (k := 11) rfl rfl Try.underlying27 rfl rfl rfl) ?_
            refine At.bP  11 (some 144) (P_len_sl rfl rfl ⟨_, Try.underlying27⟩ rfl) (by kernel_rfl) (by kernel_rfl) ?_
            refine At.bP  12 (some 145) (P_sub_i rfl rfl rfl (by omega)) (by kernel_rfl) (by kernel_rfl) ?_
            refine At.bP  13 (some 146) (P_max2 rfl rfl rfl rfl) (by kernel_rfl) (by kernel_rfl) ?_
            exact At.intoF (hGi (hG24_11 )) rfl rfl (AllL.cons_ FK2 (AllL.cons_ FK2 trivial))
          have hG24_18  : G 13 #[false, true, false, true, false, false, false, false, false, true, false, false, false, false, false, false] (frOf [(0, iV (n : Int)), (1, .slice A nr c), (7, ptr b0 0), (8, iV 0), (9, ptr bw 0), (10, iV (k : Int)), (11, ptr b11 0), (12, ptr bc97 0), (134, ptr b11 3), (136, ptr b11 3), (142, ptr b11 3)]) (famsOf (hOf [(0, ⟨false, b, q, 0, encs ActN L, 0⟩), (11, ⟨true, b11, 0, 40, [iV x.w, iV x.i, iV x.n, .slice x.B.A x.B.l.length x.B.c], 0⟩), (97, (DM.row d true bc97 bcs97 cc97)), (100, (DM.row d true b0 b1 n)), (101, (rowS true b1 d.S 0)), (102, ⟨true, bw, 0, 46, [.slice Aw n cw, .bool d.off, iV d.till, iV (d.torn : Int), iV d.wr], 0⟩), (103, ⟨true, bS, 0, 27, (es).map BG.v, cw - n⟩), (400, pRow x.B.b x.B.q x.B.l), (1097, (rowS true bcs97 d.S ((cc97 - d.n) * 64)))]) [famG 100000 5 es, famR 100001 (L.map ActE.B)]) := by
           clear hG24_0 hG24_1 hG24_2 hG24_3 hG24_4 hG24_5 hG24_6 hG24_7 hG24_8 hG24_9 hG24_10 hG24_11 hG24_12 hG24_15
           refine hGo ?_
           refine At.bStep [0, 2, 4, 10] (by kernel_rfl) (by simp) ?_
           refine ⟨?_, ?_, ?_, ?_⟩
           ·
            refine At.bS false (by kernel_rfl) (S_buildSlice0 (some 133) 133 rfl Try.underlying27 sz5 (fun b133 => ?_))
            exact At.intoF (hGi (hG24_16 b133)) rfl rfl (AllL.cons_ FK2 (AllL.cons_ FK2 trivial))
           ·
            refine At.bSQ (some 135) (Q_loadO (k := 11) rfl rfl Try.underlying27 rfl rfl rfl) ?_
            exact At.intoF (hGi (hG24_17 )) rfl rfl (AllL.cons_ FK2 (AllL.cons_ FK2 trivial))
           ·
            refine At.bSQ (some 137) (Q_loadO (k := 11) rfl rfl Try.underlying27 rfl rfl rfl) ?_
            refine At.bP  5 (some 138) (P_len_sl rfl rfl ⟨_, Try.underlying27⟩ rfl) (by kernel_rfl) (by kernel_rfl) ?_
            refine At.bP  6 (some 139) (P_min2 rfl rfl rfl rfl) (by kernel_rfl) (by kernel_rfl) ?_
            exact At.intoF (hGi (hG24_14 )) rfl rfl (AllL.cons_ FK2 (AllL.cons_ FK2 trivial))
           ·
            refine At.bSQ (some 143) (Q_loadO (k := 11) rfl rfl Try.underlying27 rfl rfl rfl) ?_
            refine At.bP  11 (some 144) (P_len_sl rfl rfl ⟨_, Try.underlying27⟩ rfl) (by kernel_rfl) (by kernel_rfl) ?_
            refine At.bP  12 (some 145) (P_sub_i rfl rfl rfl (by omega)) (by kernel_rfl) (by kernel_rfl) ?_
            refine At.bP  13 (some 146) (P_max2 rfl rfl rfl rfl) (by kernel_rfl) (by kernel_rfl) ?_
            exact At.intoF (hGi (hG24_13 )) rfl rfl (AllL.cons_ FK2 (AllL.cons_ FK2 trivial))
          clear hG24_0 hG24_1 hG24_2 hG24_3 hG24_4 hG24_5 hG24_6 hG24_7 hG24_8 hG24_9 hG24_10 hG24_11 hG24_12 hG24_13 hG24_14 hG24_15 hG24_16 hG24_17
          refine hGo ?_
          refine At.bP  1 (some 134) (P_fieldAddr0 (off := 3) rfl Try.underlying40 rfl sz27 rfl rfl) (by kernel_rfl) (by kernel_rfl) ?_
          refine At.bP  3 (some 136) (P_fieldAddr0 (off := 3) rfl Try.underlying40 rfl sz27 rfl rfl) (by kernel_rfl) (by kernel_rfl) ?_
          refine At.bP  9 (some 142) (P_fieldAddr0 (off := 3) rfl Try.underlying40 rfl sz27 rfl rfl) (by kernel_rfl) (by kernel_rfl) ?_
          exact At.intoF (hGi (hG24_18 )) rfl rfl (AllL.cons_ FK2 (AllL.cons_ FK2 trivial))
         ·
          rintro fr H ⟨b133, A141, b141, c141, A147, b147, c147, rfl, rfl, g141a, g141b, g147a, g147b, -⟩
          refine At.next ?_
          refine At.seq ?_
          refine At.seq ?_
          refine At.region ?_
          refine At.p (some 148) (P_fieldAddr0 (off := 2) rfl Try.underlying40 rfl sz3 rfl rfl) ?_
          refine At.q (some 149) (Q_loadO (k := 11) rfl rfl Try.underlying3 rfl rfl rfl) ?_
          refine At.p (some 150) (P_rem_any rfl rfl rfl (by decide)) ?_
          refine At.p (some 151) (P_cmp rfl rfl rfl rfl rfl rfl) ?_
          refine At.nil ?_
          refine At.next ?_
          refine At.cond rfl (fun h151 => ?_) (fun h151 => ?_)
          · -- cond 151 t
           have e151 : (x.n.tmod 13) = 12 := eq_of_beq h151
           refine At.region ?_
           refine At.p (some 152) (P_fieldAddr0 (off := 3) rfl Try.underlying40 rfl sz27 rfl rfl) ?_
           refine At.q (some 153) (Q_loadO (k := 11) rfl rfl Try.underlying27 rfl rfl rfl) ?_
           refine At.p (some 154) (P_fieldAddr0 (off := 3) rfl Try.underlying40 rfl sz27 rfl rfl) ?_
           refine At.q (some 155) (Q_loadO (k := 11) rfl rfl Try.underlying27 rfl rfl rfl) ?_
           refine At.p (some 156) (P_len_sl rfl rfl ⟨_, Try.underlying27⟩ rfl) ?_
           refine At.p (some 157) (P_min2 rfl rfl rfl rfl) ?_
           refine At.p (some 158) (P_slice_sl (l := 0) (h := (min x.B.l.length 70)) (m := x.B.c) rfl Try.underlying27 sz5 rfl rfl ⟨_, _, rfl, by omega⟩ rfl DO DO DO) ?_
           refine At.p (some 17) (P_assign rfl rfl) ?_
           refine At.nil ?_
           refine At.next ?_
           refine At.seqJ (fun fr H => ∃ (d1 : DM) (e1 : Int) (es1 : List BG), fr = frOf [(0, iV (n : Int)), (1, .slice A nr c), (7, ptr b0 0), (8, iV 0), (9, ptr bw 0), (10, iV (k : Int)), (12, ptr bc97 0), (18, iV e1), (19, iV e1), (20, iV e1)] ∧ H = famsOf (hOf [(0, ⟨false, b, q, 0, encs ActN L, 0⟩), (97, (DM.row d1 true bc97 bcs97 cc97)), (100, (DM.row d1 true b0 b1 n)), (101, (rowS true b1 d1.S 0)), (102, ⟨true, bw, 0, 46, [.slice Aw n cw, .bool d1.off, iV d1.till, iV (d1.torn : Int), iV d1.wr], 0⟩), (103, ⟨true, bS, 0, 27, (es1).map BG.v, cw - n⟩), (1097, (rowS true bcs97 d1.S ((cc97 - d.n) * 64)))]) [famG 100000 5 es1, famR 100001 (L.map ActE.B)] ∧ (d1.Ok) ∧ (d1.n = n) ∧ (d1.wr ≤ k + 1) ∧ (SecOk d1 es1) ∧ (∀ e ∈ es1, e.ok)) ?_ ?_
           ·
            intro Kj5 hKj5
            rcases Classical.em (mayE d.off d.n x.i = 0 ∧ ((min x.B.l.length 70) - 0) = 64) with hc | hc
            · -- case 0
             obtain ⟨hc1, hc2⟩ := hc
             obtain ⟨hoff, hi0, hin⟩ := mayE_0 hc1
             have hll : (x.B.l.take ((min x.B.l.length 70) - 0)).length = 64 := by have h9 : (x.B.l.take ((min x.B.l.length 70) - 0)).length = ((min x.B.l.length 70) - 0) := LN; omega
             obtain ⟨hz1, hz2, hz3, hz4, hz5, hz6, hz7, hz8⟩ := wr_yesI hok hc1 hll
             have hxo1 := hes _ (getDG_mem (es := es) (i := (x.i).toNat) (by omega))
             have hxl1 : (es.getD (x.i).toNat default).l.length = 64 := by rw [hs.2 _ (by omega)]; exact sec_len hok (by omega)
             refine At.toM [(0, iV (n : Int)), (1, .slice A nr c), (7, ptr b0 0), (8, iV 0), (9, ptr bw 0), (10, iV (k : Int)), (11, ptr b11 0), (12, ptr bc97 0), (17, .slice (cut x.B.A 0 x.B.c 1) ((min x.B.l.length 70) - 0) (x.B.c - 0))] [(0, ⟨false, b, q, 0, encs ActN L, 0⟩), (11, ⟨true, b11, 0, 40, [iV x.w, iV x.i, iV x.n, .slice x.B.A x.B.l.length x.B.c], 0⟩), (97, (DM.row d true bc97 bcs97 cc97)), (100, (DM.row d true b0 b1 n)), (101, (rowS true b1 d.S 0)), (102, ⟨true, bw, 0, 46, [.slice Aw n cw, .bool d.off, iV d.till, iV (d.torn : Int), iV d.wr], 0⟩), (103, ⟨true, bS, 0, 27, (es).map BG.v, cw - n⟩), (133, ⟨true, b147, 0, 5, (((x.B.l.take ((min x.B.l.length 64) - 0)) ++ List.replicate (max (64 - x.B.l.length) 0) 0#8)).map u8V, c147 - (((x.B.l.take ((min x.B.l.length 64) - 0)) ++ List.replicate (max (64 - x.B.l.length) 0) 0#8)).length⟩), (400, pRow x.B.b x.B.q x.B.l), (1097, (rowS true bcs97 d.S ((cc97 - d.n) * 64)))] [famG 100000 5 es, famR 100001 (L.map ActE.B)] (AllL.cons_ rfl (AllL.cons_ rfl (AllL.cons_ rfl (AllL.cons_ rfl (AllL.cons_ rfl (AllL.cons_ rfl (AllL.cons_ rfl (AllL.cons_ rfl (AllL.cons_ rfl trivial))))))))) (AllL.cons_ rfl (AllL.cons_ rfl (AllL.cons_ rfl (AllL.cons_ rfl (AllL.cons_ rfl (AllL.cons_ rfl (AllL.cons_ rfl (AllL.cons_ rfl (AllL.cons_ rfl (AllL.cons_ rfl trivial)))))))))) (AllL.cons_ FK2 (AllL.cons_ FK2 trivial)) ?_
             refine At.famOutG 401 (i := (x.i).toNat) (by omega) (AllL.cons_ rfl (AllL.cons_ rfl (AllL.cons_ rfl (AllL.cons_ rfl (AllL.cons_ rfl (AllL.cons_ rfl (AllL.cons_ rfl (AllL.cons_ rfl (AllL.cons_ rfl (AllL.cons_ rfl trivial)))))))))) rfl (AllL.cons_ rfl trivial) ?_
             refine At.bBruteG [4, 9, 14] (fun fr H => ∃ (y : BG), fr = frOf [(0, iV (n : Int)), (1, .slice A nr c), (7, ptr b0 0), (8, iV 0), (9, ptr bw 0), (10, iV (k : Int)), (12, ptr bc97 0), (18, iV ((d.write x.i (x.B.l.take ((min x.B.l.length 70) - 0))).2)), (19, iV ((d.write x.i (x.B.l.take ((min x.B.l.length 70) - 0))).2)), (20, iV (wrE d.till))] ∧ H = famsOf (hOf [(0, ⟨false, b, q, 0, encs ActN L, 0⟩), (97, (DM.row ((d.write x.i (x.B.l.take ((min x.B.l.length 70) - 0))).1) true bc97 bcs97 cc97)), (100, (DM.row ((d.write x.i (x.B.l.take ((min x.B.l.length 70) - 0))).1) true b0 b1 n)), (101, (rowS true b1 ((d.write x.i (x.B.l.take ((min x.B.l.length 70) - 0))).1).S 0)), (102, ⟨true, bw, 0, 46, [.slice Aw n cw, .bool (((d.write x.i (x.B.l.take ((min x.B.l.length 70) - 0))).1).off), iV (((d.write x.i (x.B.l.take ((min x.B.l.length 70) - 0))).1).till), iV (((d.write x.i (x.B.l.take ((min x.B.l.length 70) - 0))).1).torn : Int), iV (((d.write x.i (x.B.l.take ((min x.B.l.length 70) - 0))).1).wr)], 0⟩), (103, ⟨true, bS, 0, 27, ((es.set (x.i).toNat y)).map BG.v, cw - n⟩), (401, ⟨true, (es.getD ((x.i).toNat) default).b, 0, 5, ((es.getD ((x.i).toNat) default).w).map u8V, (es.getD ((x.i).toNat) default).c + (es.getD ((x.i).toNat) default).q - (es.getD ((x.i).toNat) default).w.length⟩), (402, ⟨true, y.b, 0, 5, (y.w).map u8V, y.c + y.q - y.w.length⟩), (1097, (rowS true bcs97 ((d.write x.i (x.B.l.take ((min x.B.l.length 70) - 0))).1).S ((cc97 - d.n) * 64)))]) [famGut 100000 5 es ((x.i).toNat), famR 100001 (L.map ActE.B)] ∧ (y.ok) ∧ (y.l = wrL d.till d.torn (x.B.l.take ((min x.B.l.length 70) - 0)) (es.getD (x.i).toNat default).l) ∧ True) (by kernel_rfl) ?_ ?_
             ·
              intro Kb hKb G hGi hGo
              have hG27_0 (y : BG) (hyo : y.ok) (hyl : y.l = wrL d.till d.torn (x.B.l.take ((min x.B.l.length 70) - 0)) (es.getD (x.i).toNat default).l) : G 0 #[true, true, true, true, true, true, true, true, true, true, true, true, true, true, true, true, true, true] (frOf [(0, iV (n : Int)), (1, .slice A nr c), (7, ptr b0 0), (8, iV 0), (9, ptr bw 0), (10, iV (k : Int)), (12, ptr bc97 0), (18, iV ((d.write x.i (x.B.l.take ((min x.B.l.length 70) - 0))).2)), (19, iV ((d.write x.i (x.B.l.take ((min x.B.l.length 70) - 0))).2)), (20, iV (wrE d.till))]) (famsOf (hOf [(0, ⟨false, b, q, 0, encs ActN L, 0⟩), (97, (DM.row ((d.write x.i (x.B.l.take ((min x.B.l.length 70) - 0))).1) true bc97 bcs97 cc97)), (100, (DM.row ((d.write x.i (x.B.l.take ((min x.B.l.length 70) - 0))).1) true b0 b1 n)), (101, (rowS true b1 ((d.write x.i (x.B.l.take ((min x.B.l.length 70) - 0))).1).S 0)), (102, ⟨true, bw, 0, 46, [.slice Aw n cw, .bool (((d.write x.i (x.B.l.take ((min x.B.l.length 70) - 0))).1).off), iV (((d.write x.i (x.B.l.take ((min x.B.l.length 70) - 0))).1).till), iV (((d.write x.i (x.B.l.take ((min x.B.l.length 70) - 0))).1).torn : Int), iV (((d.write x.i (x.B.l.take ((min x.B.l.length 70) - 0))).1).wr)], 0⟩), (103, ⟨true, bS, 0, 27, ((es.set (x.i).toNat y)).map BG.v, cw - n⟩), (401, ⟨true, (es.getD ((x.i).toNat) default).b, 0, 5, ((es.getD ((x.i).toNat) default).w).map u8V, (es.getD ((x.i).toNat) default).c + (es.getD ((x.i).toNat) default).q - (es.getD ((x.i).toNat) default).w.length⟩), (402, ⟨true, y.b, 0, 5, (y.w).map u8V, y.c + y.q - y.w.length⟩), (1097, (rowS true bcs97 ((d.write x.i (x.B.l.take ((min x.B.l.length 70) - 0))).1).S ((cc97 - d.n) * 64)))]) [famGut 100000 5 es ((x.i).toNat), famR 100001 (L.map ActE.B)]) := by
               refine hGo ?_
               refine At.bEnd (by kernel_rfl) ?_
               refine At.next ?_
               exact hKb _ _ ⟨y, rfl, rfl, hyo, hyl, trivial⟩
              have hG27_1  : G 4 #[true, true, true, true, true, true, true, true, true, true, true, true, true, true, false, false, false, false] (frOf [(0, iV (n : Int)), (1, .slice A nr c), (7, ptr b0 0), (8, iV 0), (9, ptr bw 0), (10, iV (k : Int)), (12, ptr bc97 0), (163, iV ((d.write x.i (x.B.l.take ((min x.B.l.length 70) - 0))).2)), (168, iV ((d.write x.i (x.B.l.take ((min x.B.l.length 70) - 0))).2)), (169, ptr bw 0), (171, iV x.i), (172, .slice (cut x.B.A 0 x.B.c 1) ((min x.B.l.length 70) - 0) (x.B.c - 0))]) (famsOf (hOf [(0, ⟨false, b, q, 0, encs ActN L, 0⟩), (97, (DM.row ((d.write x.i (x.B.l.take ((min x.B.l.length 70) - 0))).1) true bc97 bcs97 cc97)), (100, (DM.row ((d.write x.i (x.B.l.take ((min x.B.l.length 70) - 0))).1) true b0 b1 n)), (101, (rowS true b1 ((d.write x.i (x.B.l.take ((min x.B.l.length 70) - 0))).1).S 0)), (102, ⟨true, bw, 0, 46, [.slice Aw n cw, .bool d.off, iV d.till, iV (d.torn : Int), iV d.wr], 0⟩), (103, ⟨true, bS, 0, 27, (es).map BG.v, cw - n⟩), (400, pRow x.B.b x.B.q x.B.l), (401, ⟨true, (es.getD ((x.i).toNat) default).b, 0, 5, ((es.getD ((x.i).toNat) default).w).map u8V, (es.getD ((x.i).toNat) default).c + (es.getD ((x.i).toNat) default).q - (es.getD ((x.i).toNat) default).w.length⟩), (1097, (rowS true bcs97 ((d.write x.i (x.B.l.take ((min x.B.l.length 70) - 0))).1).S ((cc97 - d.n) * 64)))]) [famGut 100000 5 es ((x.i).toNat), famR 100001 (L.map ActE.B)]) := by
               refine hGo ?_
               refine At.bStep [14] (by kernel_rfl) (by simp) ?_
               refine At.bS true (by kernel_rfl) (S_callR (some 173) [(102, _), (103, _)] [(401, _), (400, _)] [102, 103, 402] (vs := [_, _, _]) rfl en22 rfl (ON rfl rfl (ON rfl rfl O0)) (by simp) (VN (by simp) rfl (BG.see hxo1) (VN (by simp) rfl (View.sub (j := 0) (m := ((min x.B.l.length 70) - 0)) RO rfl) V0)) (by simp) (r_WriteY (bw := bw) (bS := bS) (cw := cw) (torn := d.torn) (m := n) (off := d.off) (till := d.till) (wr := d.wr) (es := es) (Aw := Aw) (i := x.i) (k := (x.i).toNat) (l := (x.B.l.take ((min x.B.l.length 70) - 0))) (A := (cut x.B.A 0 x.B.c 1)) (nl := ((min x.B.l.length 70) - 0)) (c := (x.B.c - 0)) (b := x.B.b) (q := x.B.q) hAw hcw (by first | assumption | omega) (by omega) LN (fun h => cut_zero ((fun h => BG.adrR hxo (by omega)) (by omega))) (by omega) (by omega) hoff (by omega) hc2 hes hxo1 hxl1 (by omega) (by omega) (by omega) (by omega) (by omega)) (by rintro _ _ ⟨y, hyo, hyl, rfl, rfl⟩; rfl) ?_)
               rintro _ _ ⟨y, hyo, hyl, rfl, rfl⟩
               refine At.row 102 (⟨true, bw, 0, 46, [.slice Aw n cw, .bool (((d.write x.i (x.B.l.take ((min x.B.l.length 70) - 0))).1).off), iV (((d.write x.i (x.B.l.take ((min x.B.l.length 70) - 0))).1).till), iV (((d.write x.i (x.B.l.take ((min x.B.l.length 70) - 0))).1).torn : Int), iV (((d.write x.i (x.B.l.take ((min x.B.l.length 70) - 0))).1).wr)], 0⟩) rfl (by rw [hz3, hz4, hz5, hz6]) ?_
               refine At.bP  15 (some 18) (P_assign rfl rfl) (by kernel_rfl) (by kernel_rfl) ?_
               refine At.bP  16 (some 19) (P_assign rfl rfl) (by kernel_rfl) (by kernel_rfl) ?_
               refine At.bP  17 (some 20) (P_assign rfl rfl) (by kernel_rfl) (by kernel_rfl) ?_
               exact At.intoF (hGi (hG27_0 y hyo hyl)) rfl rfl (AllL.cons_ FK2 (AllL.cons_ FK2 trivial))
              have hG27_2  : G 5 #[true, true, true, true, true, true, true, true, true, false, true, true, true, true, false, false, false, false] (frOf [(0, iV (n : Int)), (1, .slice A nr c), (7, ptr b0 0), (8, iV 0), (9, ptr bw 0), (10, iV (k : Int)), (12, ptr bc97 0), (163, iV ((d.write x.i (x.B.l.take ((min x.B.l.length 70) - 0))).2)), (164, ptr b0 0), (166, iV x.i), (167, .slice (cut x.B.A 0 x.B.c 1) ((min x.B.l.length 70) - 0) (x.B.c - 0)), (169, ptr bw 0), (171, iV x.i), (172, .slice (cut x.B.A 0 x.B.c 1) ((min x.B.l.length 70) - 0) (x.B.c - 0))]) (famsOf (hOf [(0, ⟨false, b, q, 0, encs ActN L, 0⟩), (97, (DM.row ((d.write x.i (x.B.l.take ((min x.B.l.length 70) - 0))).1) true bc97 bcs97 cc97)), (100, (DM.row d true b0 b1 n)), (101, (rowS true b1 d.S 0)), (102, ⟨true, bw, 0, 46, [.slice Aw n cw, .bool d.off, iV d.till, iV (d.torn : Int), iV d.wr], 0⟩), (103, ⟨true, bS, 0, 27, (es).map BG.v, cw - n⟩), (400, pRow x.B.b x.B.q x.B.l), (401, ⟨true, (es.getD ((x.i).toNat) default).b, 0, 5, ((es.getD ((x.i).toNat) default).w).map u8V, (es.getD ((x.i).toNat) default).c + (es.getD ((x.i).toNat) default).q - (es.getD ((x.i).toNat) default).w.length⟩), (1097, (rowS true bcs97 ((d.write x.i (x.B.l.take ((min x.B.l.length 70) - 0))).1).S ((cc97 - d.n) * 64)))]) [famGut 100000 5 es ((x.i).toNat), famR 100001 (L.map ActE.B)]) := by
               clear hG27_0
               refine hGo ?_
               refine At.bStep [9] (by kernel_rfl) (by simp) ?_
               refine At.bS true (by kernel_rfl) (S_callR (some 168) [(100, _), (101, _)] [(400, _)] [100, 101] (vs := [_, _, _]) rfl en11 rfl (ON rfl rfl (ON rfl rfl O0)) (by simp) (VN (by simp) rfl (View.sub (j := 0) (m := ((min x.B.l.length 70) - 0)) RO rfl) V0) (by simp) (c_WriteN d hok b0 b1 n 0 (by first | omega | exact (show d.n ≤ n by omega)) (i := x.i) (A := (cut x.B.A 0 x.B.c 1)) (ca := (x.B.c - 0)) (bq := x.B.b) (q := x.B.q) (l := (x.B.l.take ((min x.B.l.length 70) - 0))) (nl := ((min x.B.l.length 70) - 0)) LN (fun h => cut_zero ((fun h => BG.adrR hxo (by omega)) (by omega)))) (by rintro _ _ ⟨rfl, rfl⟩; rfl) ?_)
               rintro _ _ ⟨rfl, rfl⟩
               exact At.intoF (hGi (hG27_1 )) rfl rfl (AllL.cons_ FK2 (AllL.cons_ FK2 trivial))
              have hG27_3  : G 6 #[true, true, true, true, true, true, true, true, true, false, true, true, false, true, false, false, false, false] (frOf [(0, iV (n : Int)), (1, .slice A nr c), (7, ptr b0 0), (8, iV 0), (9, ptr bw 0), (10, iV (k : Int)), (12, ptr bc97 0), (163, iV ((d.write x.i (x.B.l.take ((min x.B.l.length 70) - 0))).2)), (164, ptr b0 0), (166, iV x.i), (167, .slice (cut x.B.A 0 x.B.c 1) ((min x.B.l.length 70) - 0) (x.B.c - 0)), (169, ptr bw 0), (170, ptr b11 1), (172, .slice (cut x.B.A 0 x.B.c 1) ((min x.B.l.length 70) - 0) (x.B.c - 0))]) (famsOf (hOf [(0, ⟨false, b, q, 0, encs ActN L, 0⟩), (11, ⟨true, b11, 0, 40, [iV x.w, iV x.i, iV x.n, .slice x.B.A x.B.l.length x.B.c], 0⟩), (97, (DM.row ((d.write x.i (x.B.l.take ((min x.B.l.length 70) - 0))).1) true bc97 bcs97 cc97)), (100, (DM.row d true b0 b1 n)), (101, (rowS true b1 d.S 0)), (102, ⟨true, bw, 0, 46, [.slice Aw n cw, .bool d.off, iV d.till, iV (d.torn : Int), iV d.wr], 0⟩), (103, ⟨true, bS, 0, 27, (es).map BG.v, cw - n⟩), (400, pRow x.B.b x.B.q x.B.l), (401, ⟨true, (es.getD ((x.i).toNat) default).b, 0, 5, ((es.getD ((x.i).toNat) default).w).map u8V, (es.getD ((x.i).toNat) default).c + (es.getD ((x.i).toNat) default).q - (es.getD ((x.i).toNat) default).w.length⟩), (1097, (rowS true bcs97 ((d.write x.i (x.B.l.take ((min x.B.l.length 70) - 0))).1).S ((cc97 - d.n) * 64)))]) [famGut 100000 5 es ((x.i).toNat), famR 100001 (L.map ActE.B)]) := by
               clear hG27_0
               refine hGo ?_
               refine At.bStep [9, 12] (by kernel_rfl) (by simp) ?_
               refine ⟨?_, ?_⟩
               ·
                refine At.bS true (by kernel_rfl) (S_callR (some 168) [(100, _), (101, _)] [(400, _)] [100, 101] (vs := [_, _, _]) rfl en11 rfl (ON rfl rfl (ON rfl rfl O0)) (by simp) (VN (by simp) rfl (View.sub (j := 0) (m := ((min x.B.l.length 70) - 0)) RO rfl) V0) (by simp) (c_WriteN d hok b0 b1 n 0 (by first | omega | exact (show d.n ≤ n by omega)) (i := x.i) (A := (cut x.B.A 0 x.B.c 1)) (ca := (x.B.c - 0)) (bq := x.B.b) (q := x.B.q) (l := (x.B.l.take ((min x.B.l.length 70) - 0))) (nl := ((min x.B.l.length 70) - 0)) LN (fun h => cut_zero ((fun h => BG.adrR hxo (by omega)) (by omega)))) (by rintro _ _ ⟨rfl, rfl⟩; rfl) ?_)
                rintro _ _ ⟨rfl, rfl⟩
                refine At.bQ  12 (some 171) (Q_loadO (k := 11) rfl rfl Try.underlying3 rfl rfl rfl) (by kernel_rfl) (by kernel_rfl) ?_
                exact At.intoF (hGi (hG27_1 )) rfl rfl (AllL.cons_ FK2 (AllL.cons_ FK2 trivial))
               ·
                refine At.bSQ (some 171) (Q_loadO (k := 11) rfl rfl Try.underlying3 rfl rfl rfl) ?_
                exact At.intoF (hGi (hG27_2 )) rfl rfl (AllL.cons_ FK2 (AllL.cons_ FK2 trivial))
              have hG27_4  : G 6 #[true, true, true, true, true, true, true, false, true, false, true, true, true, true, false, false, false, false] (frOf [(0, iV (n : Int)), (1, .slice A nr c), (7, ptr b0 0), (8, iV 0), (9, ptr bw 0), (10, iV (k : Int)), (12, ptr bc97 0), (163, iV ((d.write x.i (x.B.l.take ((min x.B.l.length 70) - 0))).2)), (164, ptr b0 0), (165, ptr b11 1), (167, .slice (cut x.B.A 0 x.B.c 1) ((min x.B.l.length 70) - 0) (x.B.c - 0)), (169, ptr bw 0), (171, iV x.i), (172, .slice (cut x.B.A 0 x.B.c 1) ((min x.B.l.length 70) - 0) (x.B.c - 0))]) (famsOf (hOf [(0, ⟨false, b, q, 0, encs ActN L, 0⟩), (11, ⟨true, b11, 0, 40, [iV x.w, iV x.i, iV x.n, .slice x.B.A x.B.l.length x.B.c], 0⟩), (97, (DM.row ((d.write x.i (x.B.l.take ((min x.B.l.length 70) - 0))).1) true bc97 bcs97 cc97)), (100, (DM.row d true b0 b1 n)), (101, (rowS true b1 d.S 0)), (102, ⟨true, bw, 0, 46, [.slice Aw n cw, .bool d.off, iV d.till, iV (d.torn : Int), iV d.wr], 0⟩), (103, ⟨true, bS, 0, 27, (es).map BG.v, cw - n⟩), (400, pRow x.B.b x.B.q x.B.l), (401, ⟨true, (es.getD ((x.i).toNat) default).b, 0, 5, ((es.getD ((x.i).toNat) default).w).map u8V, (es.getD ((x.i).toNat) default).c + (es.getD ((x.i).toNat) default).q - (es.getD ((x.i).toNat) default).w.length⟩), (1097, (rowS true bcs97 ((d.write x.i (x.B.l.take ((min x.B.l.length 70) - 0))).1).S ((cc97 - d.n) * 64)))]) [famGut 100000 5 es ((x.i).toNat), famR 100001 (L.map ActE.B)]) := by
               clear hG27_0 hG27_1 hG27_3
               refine hGo ?_
               refine At.bStep [7] (by kernel_rfl) (by simp) ?_
               refine At.bSQ (some 166) (Q_loadO (k := 11) rfl rfl Try.underlying3 rfl rfl rfl) ?_
               exact At.intoF (hGi (hG27_2 )) rfl rfl (AllL.cons_ FK2 (AllL.cons_ FK2 trivial))
              have hG27_5  : G 6 #[true, true, true, true, false, true, true, true, true, false, true, true, true, true, false, false, false, false] (frOf [(0, iV (n : Int)), (1, .slice A nr c), (7, ptr b0 0), (8, iV 0), (9, ptr bw 0), (10, iV (k : Int)), (12, ptr bc97 0), (159, ptr bc97 0), (161, iV x.i), (162, .slice (cut x.B.A 0 x.B.c 1) ((min x.B.l.length 70) - 0) (x.B.c - 0)), (164, ptr b0 0), (166, iV x.i), (167, .slice (cut x.B.A 0 x.B.c 1) ((min x.B.l.length 70) - 0) (x.B.c - 0)), (169, ptr bw 0), (171, iV x.i), (172, .slice (cut x.B.A 0 x.B.c 1) ((min x.B.l.length 70) - 0) (x.B.c - 0))]) (famsOf (hOf [(0, ⟨false, b, q, 0, encs ActN L, 0⟩), (97, (DM.row d true bc97 bcs97 cc97)), (100, (DM.row d true b0 b1 n)), (101, (rowS true b1 d.S 0)), (102, ⟨true, bw, 0, 46, [.slice Aw n cw, .bool d.off, iV d.till, iV (d.torn : Int), iV d.wr], 0⟩), (103, ⟨true, bS, 0, 27, (es).map BG.v, cw - n⟩), (400, pRow x.B.b x.B.q x.B.l), (401, ⟨true, (es.getD ((x.i).toNat) default).b, 0, 5, ((es.getD ((x.i).toNat) default).w).map u8V, (es.getD ((x.i).toNat) default).c + (es.getD ((x.i).toNat) default).q - (es.getD ((x.i).toNat) default).w.length⟩), (1097, (rowS true bcs97 d.S ((cc97 - d.n) * 64)))]) [famGut 100000 5 es ((x.i).toNat), famR 100001 (L.map ActE.B)]) := by
               clear hG27_0 hG27_1 hG27_3 hG27_4
               refine hGo ?_
               refine At.bStep [4] (by kernel_rfl) (by simp) ?_
               refine At.bS true (by kernel_rfl) (S_callR (some 163) [(97, _), (1097, _)] [(400, _)] [97, 1097] (vs := [_, _, _]) rfl en11 rfl (ON rfl rfl (ON rfl rfl O0)) (by simp) (VN (by simp) rfl (View.sub (j := 0) (m := ((min x.B.l.length 70) - 0)) RO rfl) V0) (by simp) (c_WriteN d hok bc97 bcs97 cc97 ((cc97 - d.n) * 64) (by first | omega | exact (show d.n ≤ cc97 by omega)) (i := x.i) (A := (cut x.B.A 0 x.B.c 1)) (ca := (x.B.c - 0)) (bq := x.B.b) (q := x.B.q) (l := (x.B.l.take ((min x.B.l.length 70) - 0))) (nl := ((min x.B.l.length 70) - 0)) LN (fun h => cut_zero ((fun h => BG.adrR hxo (by omega)) (by omega)))) (by rintro _ _ ⟨rfl, rfl⟩; rfl) ?_)
               rintro _ _ ⟨rfl, rfl⟩
               exact At.intoF (hGi (hG27_2 )) rfl rfl (AllL.cons_ FK2 (AllL.cons_ FK2 trivial))
              have hG27_6  : G 7 #[true, true, true, true, true, true, true, false, true, false, true, true, false, true, false, false, false, false] (frOf [(0, iV (n : Int)), (1, .slice A nr c), (7, ptr b0 0), (8, iV 0), (9, ptr bw 0), (10, iV (k : Int)), (12, ptr bc97 0), (163, iV ((d.write x.i (x.B.l.take ((min x.B.l.length 70) - 0))).2)), (164, ptr b0 0), (165, ptr b11 1), (167, .slice (cut x.B.A 0 x.B.c 1) ((min x.B.l.length 70) - 0) (x.B.c - 0)), (169, ptr bw 0), (170, ptr b11 1), (172, .slice (cut x.B.A 0 x.B.c 1) ((min x.B.l.length 70) - 0) (x.B.c - 0))]) (famsOf (hOf [(0, ⟨false, b, q, 0, encs ActN L, 0⟩), (11, ⟨true, b11, 0, 40, [iV x.w, iV x.i, iV x.n, .slice x.B.A x.B.l.length x.B.c], 0⟩), (97, (DM.row ((d.write x.i (x.B.l.take ((min x.B.l.length 70) - 0))).1) true bc97 bcs97 cc97)), (100, (DM.row d true b0 b1 n)), (101, (rowS true b1 d.S 0)), (102, ⟨true, bw, 0, 46, [.slice Aw n cw, .bool d.off, iV d.till, iV (d.torn : Int), iV d.wr], 0⟩), (103, ⟨true, bS, 0, 27, (es).map BG.v, cw - n⟩), (400, pRow x.B.b x.B.q x.B.l), (401, ⟨true, (es.getD ((x.i).toNat) default).b, 0, 5, ((es.getD ((x.i).toNat) default).w).map u8V, (es.getD ((x.i).toNat) default).c + (es.getD ((x.i).toNat) default).q - (es.getD ((x.i).toNat) default).w.length⟩), (1097, (rowS true bcs97 ((d.write x.i (x.B.l.take ((min x.B.l.length 70) - 0))).1).S ((cc97 - d.n) * 64)))]) [famGut 100000 5 es ((x.i).toNat), famR 100001 (L.map ActE.B)]) := by
               clear hG27_0 hG27_1 hG27_2 hG27_5
               refine hGo ?_
               refine At.bStep [7, 12] (by kernel_rfl) (by simp) ?_
               refine ⟨?_, ?_⟩
               ·
                refine At.bSQ (some 166) (Q_loadO (k := 11) rfl rfl Try.underlying3 rfl rfl rfl) ?_
                exact At.intoF (hGi (hG27_3 )) rfl rfl (AllL.cons_ FK2 (AllL.cons_ FK2 trivial))
               ·
                refine At.bSQ (some 171) (Q_loadO (k := 11) rfl rfl Try.underlying3 rfl rfl rfl) ?_
                exact At.intoF (hGi (hG27_4 )) rfl rfl (AllL.cons_ FK2 (AllL.cons_ FK2 trivial))
              have hG27_7  : G 7 #[true, true, true, true, false, true, true, true, true, false, true, true, false, true, false, false, false, false] (frOf [(0, iV (n : Int)), (1, .slice A nr c), (7, ptr b0 0), (8, iV 0), (9, ptr bw 0), (10, iV (k : Int)), (12, ptr bc97 0), (159, ptr bc97 0), (161, iV x.i), (162, .slice (cut x.B.A 0 x.B.c 1) ((min x.B.l.length 70) - 0) (x.B.c - 0)), (164, ptr b0 0), (166, iV x.i), (167, .slice (cut x.B.A 0 x.B.c 1) ((min x.B.l.length 70) - 0) (x.B.c - 0)), (169, ptr bw 0), (170, ptr b11 1), (172, .slice (cut x.B.A 0 x.B.c 1) ((min x.B.l.length 70) - 0) (x.B.c - 0))]) (famsOf (hOf [(0, ⟨false, b, q, 0, encs ActN L, 0⟩), (11, ⟨true, b11, 0, 40, [iV x.w, iV x.i, iV x.n, .slice x.B.A x.B.l.length x.B.c], 0⟩), (97, (DM.row d true bc97 bcs97 cc97)), (100, (DM.row d true b0 b1 n)), (101, (rowS true b1 d.S 0)), (102, ⟨true, bw, 0, 46, [.slice Aw n cw, .bool d.off, iV d.till, iV (d.torn : Int), iV d.wr], 0⟩), (103, ⟨true, bS, 0, 27, (es).map BG.v, cw - n⟩), (400, pRow x.B.b x.B.q x.B.l), (401, ⟨true, (es.getD ((x.i).toNat) default).b, 0, 5, ((es.getD ((x.i).toNat) default).w).map u8V, (es.getD ((x.i).toNat) default).c + (es.getD ((x.i).toNat) default).q - (es.getD ((x.i).toNat) default).w.length⟩), (1097, (rowS true bcs97 d.S ((cc97 - d.n) * 64)))]) [famGut 100000 5 es ((x.i).toNat), famR 100001 (L.map ActE.B)]) := by
               clear hG27_0 hG27_1 hG27_2 hG27_4 hG27_6
               refine hGo ?_
               refine At.bStep [4, 12] (by kernel_rfl) (by simp) ?_
               refine ⟨?_, ?_⟩
               ·
                refine At.bS true (by kernel_rfl) (S_callR (some 163) [(97, _), (1097, _)] [(400, _)] [97, 1097] (vs := [_, _, _]) rfl en11 rfl (ON rfl rfl (ON rfl rfl O0)) (by simp) (VN (by simp) rfl (View.sub (j := 0) (m := ((min x.B.l.length 70) - 0)) RO rfl) V0) (by simp) (c_WriteN d hok bc97 bcs97 cc97 ((cc97 - d.n) * 64) (by first | omega | exact (show d.n ≤ cc97 by omega)) (i := x.i) (A := (cut x.B.A 0 x.B.c 1)) (ca := (x.B.c - 0)) (bq := x.B.b) (q := x.B.q) (l := (x.B.l.take ((min x.B.l.length 70) - 0))) (nl := ((min x.B.l.length 70) - 0)) LN (fun h => cut_zero ((fun h => BG.adrR hxo (by omega)) (by omega)))) (by rintro _ _ ⟨rfl, rfl⟩; rfl) ?_)
                rintro _ _ ⟨rfl, rfl⟩
                exact At.intoF (hGi (hG27_3 )) rfl rfl (AllL.cons_ FK2 (AllL.cons_ FK2 trivial))
               ·
                refine At.bSQ (some 171) (Q_loadO (k := 11) rfl rfl Try.underlying3 rfl rfl rfl) ?_
                exact At.intoF (hGi (hG27_5 )) rfl rfl (AllL.cons_ FK2 (AllL.cons_ FK2 trivial))
              have hG27_8  : G 7 #[true, true, true, true, false, true, true, false, true, false, true, true, true, true, false, false, false, false] (frOf [(0, iV (n : Int)), (1, .slice A nr c), (7, ptr b0 0), (8, iV 0), (9, ptr bw 0), (10, iV (k : Int)), (12, ptr bc97 0), (159, ptr bc97 0), (161, iV x.i), (162, .slice (cut x.B.A 0 x.B.c 1) ((min x.B.l.length 70) - 0) (x.B.c - 0)), (164, ptr b0 0), (165, ptr b11 1), (167, .slice (cut x.B.A 0 x.B.c 1) ((min x.B.l.length 70) - 0) (x.B.c - 0)), (169, ptr bw 0), (171, iV x.i), (172, .slice (cut x.B.A 0 x.B.c 1) ((min x.B.l.length 70) - 0) (x.B.c - 0))]) (famsOf (hOf [(0, ⟨false, b, q, 0, encs ActN L, 0⟩), (11, ⟨true, b11, 0, 40, [iV x.w, iV x.i, iV x.n, .slice x.B.A x.B.l.length x.B.c], 0⟩), (97, (DM.row d true bc97 bcs97 cc97)), (100, (DM.row d true b0 b1 n)), (101, (rowS true b1 d.S 0)), (102, ⟨true, bw, 0, 46, [.slice Aw n cw, .bool d.off, iV d.till, iV (d.torn : Int), iV d.wr], 0⟩), (103, ⟨true, bS, 0, 27, (es).map BG.v, cw - n⟩), (400, pRow x.B.b x.B.q x.B.l), (401, ⟨true, (es.getD ((x.i).toNat) default).b, 0, 5, ((es.getD ((x.i).toNat) default).w).map u8V, (es.getD ((x.i).toNat) default).c + (es.getD ((x.i).toNat) default).q - (es.getD ((x.i).toNat) default).w.length⟩), (1097, (rowS true bcs97 d.S ((cc97 - d.n) * 64)))]) [famGut 100000 5 es ((x.i).toNat), famR 100001 (L.map ActE.B)]) := by
               clear hG27_0 hG27_1 hG27_2 hG27_3 hG27_6 hG27_7
               refine hGo ?_
               refine At.bStep [4, 7] (by kernel_rfl) (by simp) ?_
               refine ⟨?_, ?_⟩
               ·
                refine At.bS true (by kernel_rfl) (S_callR (some 163) [(97, _), (1097, _)] [(400, _)] [97, 1097] (vs := [_, _, _]) rfl en11 rfl (ON rfl rfl (ON rfl rfl O0)) (by simp) (VN (by simp) rfl (View.sub (j := 0) (m := ((min x.B.l.length 70) - 0)) RO rfl) V0) (by simp) (c_WriteN d hok bc97 bcs97 cc97 ((cc97 - d.n) * 64) (by first | omega | exact (show d.n ≤ cc97 by omega)) (i := x.i) (A := (cut x.B.A 0 x.B.c 1)) (ca := (x.B.c - 0)) (bq := x.B.b) (q := x.B.q) (l := (x.B.l.take ((min x.B.l.length 70) - 0))) (nl := ((min x.B.l.length 70) - 0)) LN (fun h => cut_zero ((fun h => BG.adrR hxo (by omega)) (by omega)))) (by rintro _ _ ⟨rfl, rfl⟩; rfl) ?_)
                rintro _ _ ⟨rfl, rfl⟩
                exact At.intoF (hGi (hG27_4 )) rfl rfl (AllL.cons_ FK2 (AllL.cons_ FK2 trivial))
               ·
                refine At.bSQ (some 166) (Q_loadO (k := 11) rfl rfl Try.underlying3 rfl rfl rfl) ?_
                exact At.intoF (hGi (hG27_5 )) rfl rfl (AllL.cons_ FK2 (AllL.cons_ FK2 trivial))
              have hG27_9  : G 7 #[true, true, false, true, false, true, true, true, true, false, true, true, true, true, false, false, false, false] (frOf [(0, iV (n : Int)), (1, .slice A nr c), (7, ptr b0 0), (8, iV 0), (9, ptr bw 0), (10, iV (k : Int)), (12, ptr bc97 0), (159, ptr bc97 0), (160, ptr b11 1), (162, .slice (cut x.B.A 0 x.B.c 1) ((min x.B.l.length 70) - 0) (x.B.c - 0)), (164, ptr b0 0), (166, iV x.i), (167, .slice (cut x.B.A 0 x.B.c 1) ((min x.B.l.length 70) - 0) (x.B.c - 0)), (169, ptr bw 0), (171, iV x.i), (172, .slice (cut x.B.A 0 x.B.c 1) ((min x.B.l.length 70) - 0) (x.B.c - 0))]) (famsOf (hOf [(0, ⟨false, b, q, 0, encs ActN L, 0⟩), (11, ⟨true, b11, 0, 40, [iV x.w, iV x.i, iV x.n, .slice x.B.A x.B.l.length x.B.c], 0⟩), (97, (DM.row d true bc97 bcs97 cc97)), (100, (DM.row d true b0 b1 n)), (101, (rowS true b1 d.S 0)), (102, ⟨true, bw, 0, 46, [.slice Aw n cw, .bool d.off, iV d.till, iV (d.torn : Int), iV d.wr], 0⟩), (103, ⟨true, bS, 0, 27, (es).map BG.v, cw - n⟩), (400, pRow x.B.b x.B.q x.B.l), (401, ⟨true, (es.getD ((x.i).toNat) default).b, 0, 5, ((es.getD ((x.i).toNat) default).w).map u8V, (es.getD ((x.i).toNat) default).c + (es.getD ((x.i).toNat) default).q - (es.getD ((x.i).toNat) default).w.length⟩), (1097, (rowS true bcs97 d.S ((cc97 - d.n) * 64)))]) [famGut 100000 5 es ((x.i).toNat), famR 100001 (L.map ActE.B)]) := by
               clear hG27_0 hG27_1 hG27_2 hG27_3 hG27_4 hG27_6 hG27_7 hG27_8
               refine hGo ?_
               refine At.bStep [2] (by kernel_rfl) (by simp) ?_
               refine At.bSQ (some 161) (Q_loadO (k := 11) rfl rfl Try.underlying3 rfl rfl rfl) ?_
               exact At.intoF (hGi (hG27_5 )) rfl rfl (AllL.cons_ FK2 (AllL.cons_ FK2 trivial))
              have hG27_10  : G 8 #[true, true, true, true, false, true, true, false, true, false, true, true, false, true, false, false, false, false] (frOf [(0, iV (n : Int)), (1, .slice A nr c), (7, ptr b0 0), (8, iV 0), (9, ptr bw 0), (10, iV (k : Int)), (12, ptr bc97 0), (159, ptr bc97 0), (161, iV x.i), (162, .slice (cut x.B.A 0 x.B.c 1) ((min x.B.l.length 70) - 0) (x.B.c - 0)), (164, ptr b0 0), (165, ptr b11 1), (167, .slice (cut x.B.A 0 x.B.c 1) ((min x.B.l.length 70) - 0) (x.B.c - 0)), (169, ptr bw 0), (170, ptr b11 1), (172, .slice (cut x.B.A 0 x.B.c 1) ((min x.B.l.length 70) - 0) (x.B.c - 0))]) (famsOf (hOf [(0, ⟨false, b, q, 0, encs ActN L, 0⟩), (11, ⟨true, b11, 0, 40, [iV x.w, iV x.i, iV x.n, .slice x.B.A x.B.l.length x.B.c], 0⟩), (97, (DM.row d true bc97 bcs97 cc97)), (100, (DM.row d true b0 b1 n)), (101, (rowS true b1 d.S 0)), (102, ⟨true, bw, 0, 46, [.slice Aw n cw, .bool d.off, iV d.till, iV (d.torn : Int), iV d.wr], 0⟩), (103, ⟨true, bS, 0, 27, (es).map BG.v, cw - n⟩), (400, pRow x.B.b x.B.q x.B.l), (401, ⟨true, (es.getD ((x.i).toNat) default).b, 0, 5, ((es.getD ((x.i).toNat) default).w).map u8V, (es.getD ((x.i).toNat) default).c + (es.getD ((x.i).toNat) default).q - (es.getD ((x.i).toNat) default).w.length⟩), (1097, (rowS true bcs97 d.S ((cc97 - d.n) * 64)))]) [famGut 100000 5 es ((x.i).toNat), famR 100001 (L.map ActE.B)]) := by
               clear hG27_0 hG27_1 hG27_2 hG27_3 hG27_4 hG27_5 hG27_9
               refine hGo ?_
               refine At.bStep [4, 7, 12] (by kernel_rfl) (by simp) ?_
               refine ⟨?_, ?_, ?_⟩
               ·
                refine At.bS true (by kernel_rfl) (S_callR (some 163) [(97, _), (1097, _)] [(400, _)] [97, 1097] (vs := [_, _, _]) rfl en11 rfl (ON rfl rfl (ON rfl rfl O0)) (by simp) (VN (by simp) rfl (View.sub (j := 0) (m := ((min x.B.l.length 70) - 0)) RO rfl) V0) (by simp) (c_WriteN d hok bc97 bcs97 cc97 ((cc97 - d.n) * 64) (by first | omega | exact (show d.n ≤ cc97 by omega)) (i := x.i) (A := (cut x.B.A 0 x.B.c 1)) (ca := (x.B.c - 0)) (bq := x.B.b) (q := x.B.q) (l := (x.B.l.take ((min x.B.l.length 70) - 0))) (nl := ((min x.B.l.length 70) - 0)) LN (fun h => cut_zero ((fun h => BG.adrR hxo (by omega)) (by omega)))) (by rintro _ _ ⟨rfl, rfl⟩; rfl) ?_)
                rintro _ _ ⟨rfl, rfl⟩
                exact At.intoF (hGi (hG27_6 )) rfl rfl (AllL.cons_ FK2 (AllL.cons_ FK2 trivial))
               ·
                refine At.bSQ (some 166) (Q_loadO (k := 11) rfl rfl Try.underlying3 rfl rfl rfl) ?_
                exact At.intoF (hGi (hG27_7 )) rfl rfl (AllL.cons_ FK2 (AllL.cons_ FK2 trivial))
               ·
                refine At.bSQ (some 171) (Q_loadO (k := 11) rfl rfl Try.underlying3 rfl rfl rfl) ?_
                exact At.intoF (hGi (hG27_8 )) rfl rfl (AllL.cons_ FK2 (AllL.cons_ FK2 trivial))
              have hG27_11  : G 8 #[true, true, false, true, false, true, true, true, true, false, true, true, false, true, false, false, false, false] (frOf [(0, iV (n : Int)), (1, .slice A nr c), (7, ptr b0 0), (8, iV 0), (9, ptr bw 0), (10, iV (k : Int)), (12, ptr bc97 0), (159, ptr bc97 0), (160, ptr b11 1), (162, .slice (cut x.B.A 0 x.B.c 1) ((min x.B.l.length 70) - 0) (x.B.c - 0)), (164, ptr b0 0), (166, iV x.i), (167, .slice (cut x.B.A 0 x.B.c 1) ((min x.B.l.length 70) - 0) (x.B.c - 0)), (169, ptr bw 0), (170, ptr b11 1), (172, .slice (cut x.B.A 0 x.B.c 1) ((min x.B.l.length 70) - 0) (x.B.c - 0))]) (famsOf (hOf [(0, ⟨false, b, q, 0, encs ActN L, 0⟩), (11, ⟨true, b11, 0, 40, [iV x.w, iV x.i, iV x.n, .slice x.B.A x.B.l.length x.B.c], 0⟩), (97, (DM.row d true bc97 bcs97 cc97)), (100, (DM.row d true b0 b1 n)), (101, (rowS true b1 d.S 0)), (102, ⟨true, bw, 0, 46, [.slice Aw n cw, .bool d.off, iV d.till, iV (d.torn : Int), iV d.wr], 0⟩), (103, ⟨true, bS, 0, 27, (es).map BG.v, cw - n⟩), (400, pRow x.B.b x.B.q x.B.l), (401, ⟨true, (es.getD ((x.i).toNat) default).b, 0, 5, ((es.getD ((x.i).toNat) default).w).map u8V, (es.getD ((x.i).toNat) default).c + (es.getD ((x.i).toNat) default).q - (es.getD ((x.i).toNat) default).w.length⟩), (1097, (rowS true bcs97 d.S ((cc97 - d.n) * 64)))]) [famGut 100000 5 es ((x.i).toNat), famR 100001 (L.map ActE.B)]) := by
               clear hG27_0 hG27_1 hG27_2 hG27_3 hG27_4 hG27_5 hG27_6 hG27_8 hG27_10
               refine hGo ?_
               refine At.bStep [2, 12] (by kernel_rfl) (by simp) ?_
               refine ⟨?_, ?_⟩
               ·
                refine At.bSQ (some 161) (Q_loadO (k := 11) rfl rfl Try.underlying3 rfl rfl rfl) ?_
                exact At.intoF (hGi (hG27_7 )) rfl rfl (AllL.cons_ FK2 (AllL.cons_ FK2 trivial))
               ·
                refine At.bSQ (some 171) (Q_loadO (k := 11) rfl rfl Try.underlying3 rfl rfl rfl) ?_
                exact At.intoF (hGi (hG27_9 )) rfl rfl (AllL.cons_ FK2 (AllL.cons_ FK2 trivial))
              have hG27_12  : G 8 #[true, true, false, true, false, true, true, false, true, false, true, true, true, true, false, false, false, false] (frOf [(0, iV (n : Int)), (1, .slice A nr c), (7, ptr b0 0), (8, iV 0), (9, ptr bw 0), (10, iV (k : Int)), (12, ptr bc97 0), (159, ptr bc97 0), (160, ptr b11 1), (162, .slice (cut x.B.A 0 x.B.c 1) ((min x.B.l.length 70) - 0) (x.B.c - 0)), (164, ptr b0 0), (165, ptr b11 1), (167, .slice (cut x.B.A 0 x.B.c 1) ((min x.B.l.length 70) - 0) (x.B.c - 0)), (169, ptr bw 0), (171, iV x.i), (172, .slice (cut x.B.A 0 x.B.c 1) ((min x.B.l.length 70) - 0) (x.B.c - 0))]) (famsOf (hOf [(0, ⟨false, b, q, 0, encs ActN L, 0⟩), (11, ⟨true, b11, 0, 40, [iV x.w, iV x.i, iV x.n, .slice x.B.A x.B.l.length x.B.c], 0⟩), (97, (DM.row d true bc97 bcs97 cc97)), (100, (DM.row d true b0 b1 n)), (101, (rowS true b1 d.S 0)), (102, ⟨true, bw, 0, 46, [.slice Aw n cw, .bool d.off, iV d.till, iV (d.torn : Int), iV d.wr], 0⟩), (103, ⟨true, bS, 0, 27, (es).map BG.v, cw - n⟩), (400, pRow x.B.b x.B.q x.B.l), (401, ⟨true, (es.getD ((x.i).toNat) default).b, 0, 5, ((es.getD ((x.i).toNat) default).w).map u8V, (es.getD ((x.i).toNat) default).c + (es.getD ((x.i).toNat) default).q - (es.getD ((x.i).toNat) default).w.length⟩), (1097, (rowS true bcs97 d.S ((cc97 - d.n) * 64)))]) [famGut 100000 5 es ((x.i).toNat), famR 100001 (L.map ActE.B)]) := by
               clear hG27_0 hG27_1 hG27_2 hG27_3 hG27_4 hG27_5 hG27_6 hG27_7 hG27_10 hG27_11
               refine hGo ?_
               refine At.bStep [2, 7] (by kernel_rfl) (by simp) ?_
               refine ⟨?_, ?_⟩
               ·
                refine At.bSQ (some 161) (Q_loadO (k := 11) rfl rfl Try.underlying3 rfl rfl rfl) ?_
                exact At.intoF (hGi (hG27_8 )) rfl rfl (AllL.cons_ FK2 (AllL.cons_ FK2 trivial))
               ·
                refine At.bSQ (some 166) (Q_loadO (k := 11) rfl rfl Try.underlying3 rfl rfl rfl) ?_
                exact At.intoF (hGi (hG27_9 )) rfl rfl (AllL.cons_ FK2 (AllL.cons_ FK2 trivial))
              have hG27_13  : G 9 #[true, true, false, true, false, true, true, false, true, false, true, true, false, true, false, false, false, false] (frOf [(0, iV (n : Int)), (1, .slice A nr c), (7, ptr b0 0), (8, iV 0), (9, ptr bw 0), (10, iV (k : Int)), (12, ptr bc97 0), (159, ptr bc97 0), (160, ptr b11 1), (162, .slice (cut x.B.A 0 x.B.c 1) ((min x.B.l.length 70) - 0) (x.B.c - 0)), (164, ptr b0 0), (165, ptr b11 1), (167, .slice (cut x.B.A 0 x.B.c 1) ((min x.B.l.length 70) - 0) (x.B.c - 0)), (169, ptr bw 0), (170, ptr b11 1), (172, .slice (cut x.B.A 0 x.B.c 1) ((min x.B.l.length 70) - 0) (x.B.c - 0))]) (famsOf (hOf [(0, ⟨false, b, q, 0, encs ActN L, 0⟩), (11, ⟨true, b11, 0, 40, [iV x.w, iV x.i, iV x.n, .slice x.B.A x.B.l.length x.B.c], 0⟩), (97, (DM.row d true bc97 bcs97 cc97)), (100, (DM.row d true b0 b1 n)), (101, (rowS true b1 d.S 0)), (102, ⟨true, bw, 0, 46, [.slice Aw n cw, .bool d.off, iV d.till, iV (d.torn : Int), iV d.wr], 0⟩), (103, ⟨true, bS, 0, 27, (es).map BG.v, cw - n⟩), (400, pRow x.B.b x.B.q x.B.l), (401, ⟨true, (es.getD ((x.i).toNat) default).b, 0, 5, ((es.getD ((x.i).toNat) default).w).map u8V, (es.getD ((x.i).toNat) default).c + (es.getD ((x.i).toNat) default).q - (es.getD ((x.i).toNat) default).w.length⟩), (1097, (rowS true bcs97 d.S ((cc97 - d.n) * 64)))]) [famGut 100000 5 es ((x.i).toNat), famR 100001 (L.map ActE.B)]) := by
               clear hG27_0 hG27_1 hG27_2 hG27_3 hG27_4 hG27_5 hG27_6 hG27_7 hG27_8 hG27_9
               refine hGo ?_
               refine At.bStep [2, 7, 12] (by kernel_rfl) (by simp) ?_
               refine ⟨?_, ?_, ?_⟩
               ·
                refine At.bSQ (some 161) (Q_loadO (k := 11) rfl rfl Try.underlying3 rfl rfl rfl) ?_
                exact At.intoF (hGi (hG27_10 )) rfl rfl (AllL.cons_ FK2 (AllL.cons_ FK2 trivial))
               ·
                refine At.bSQ (some 166) (Q_loadO (k := 11) rfl rfl Try.underlying3 rfl rfl rfl) ?_
                exact At.intoF (hGi (hG27_11 )) rfl rfl (AllL.cons_ FK2 (AllL.cons_ FK2 trivial))
               ·
                refine At.bSQ (some 171) (Q_loadO (k := 11) rfl rfl Try.underlying3 rfl rfl rfl) ?_
                exact At.intoF (hGi (hG27_12 )) rfl rfl (AllL.cons_ FK2 (AllL.cons_ FK2 trivial))
              clear hG27_0 hG27_1 hG27_2 hG27_3 hG27_4 hG27_5 hG27_6 hG27_7 hG27_8 hG27_9 hG27_10 hG27_11 hG27_12
              refine hGo ?_
              refine At.bP  0 (some 159) (P_move rfl rfl) (by kernel_rfl) (by kernel_rfl) ?_
              refine At.bP  1 (some 160) (P_fieldAddr0 (off := 1) rfl Try.underlying40 rfl sz3 rfl rfl) (by kernel_rfl) (by kernel_rfl) ?_
              refine At.bP  3 (some 162) (P_move rfl rfl) (by kernel_rfl) (by kernel_rfl) ?_
              refine At.bP  5 (some 164) (P_move rfl rfl) (by kernel_rfl) (by kernel_rfl) ?_
              refine At.bP  6 (some 165) (P_fieldAddr0 (off := 1) rfl Try.underlying40 rfl sz3 rfl rfl) (by kernel_rfl) (by kernel_rfl) ?_
              refine At.bP  8 (some 167) (P_move rfl rfl) (by kernel_rfl) (by kernel_rfl) ?_
              refine At.bP  10 (some 169) (P_move rfl rfl) (by kernel_rfl) (by kernel_rfl) ?_
              refine At.bP  11 (some 170) (P_fieldAddr0 (off := 1) rfl Try.underlying40 rfl sz3 rfl rfl) (by kernel_rfl) (by kernel_rfl) ?_
              refine At.bP  13 (some 172) (P_move rfl rfl) (by kernel_rfl) (by kernel_rfl) ?_
              exact At.intoF (hGi (hG27_13 )) rfl rfl (AllL.cons_ FK2 (AllL.cons_ FK2 trivial))
             ·
              rintro fr H ⟨y, rfl, rfl, hyo, hyl, -⟩
              refine At.next ?_
              refine At.toM [(0, iV (n : Int)), (1, .slice A nr c), (7, ptr b0 0), (8, iV 0), (9, ptr bw 0), (10, iV (k : Int)), (12, ptr bc97 0), (18, iV ((d.write x.i (x.B.l.take ((min x.B.l.length 70) - 0))).2)), (19, iV ((d.write x.i (x.B.l.take ((min x.B.l.length 70) - 0))).2)), (20, iV (wrE d.till))] [(402, ⟨true, y.b, 0, 5, (y.w).map u8V, y.c + y.q - y.w.length⟩), (0, ⟨false, b, q, 0, encs ActN L, 0⟩), (97, (DM.row ((d.write x.i (x.B.l.take ((min x.B.l.length 70) - 0))).1) true bc97 bcs97 cc97)), (100, (DM.row ((d.write x.i (x.B.l.take ((min x.B.l.length 70) - 0))).1) true b0 b1 n)), (101, (rowS true b1 ((d.write x.i (x.B.l.take ((min x.B.l.length 70) - 0))).1).S 0)), (102, ⟨true, bw, 0, 46, [.slice Aw n cw, .bool (((d.write x.i (x.B.l.take ((min x.B.l.length 70) - 0))).1).off), iV (((d.write x.i (x.B.l.take ((min x.B.l.length 70) - 0))).1).till), iV (((d.write x.i (x.B.l.take ((min x.B.l.length 70) - 0))).1).torn : Int), iV (((d.write x.i (x.B.l.take ((min x.B.l.length 70) - 0))).1).wr)], 0⟩), (103, ⟨true, bS, 0, 27, ((es.set (x.i).toNat y)).map BG.v, cw - n⟩), (1097, (rowS true bcs97 ((d.write x.i (x.B.l.take ((min x.B.l.length 70) - 0))).1).S ((cc97 - d.n) * 64)))] [famGut 100000 5 es ((x.i).toNat), famR 100001 (L.map ActE.B)] (AllL.cons_ rfl (AllL.cons_ rfl (AllL.cons_ rfl (AllL.cons_ rfl (AllL.cons_ rfl (AllL.cons_ rfl (AllL.cons_ rfl (AllL.cons_ rfl (AllL.cons_ rfl (AllL.cons_ rfl trivial)))))))))) (AllL.cons_ rfl (AllL.cons_ rfl (AllL.cons_ rfl (AllL.cons_ rfl (AllL.cons_ rfl (AllL.cons_ rfl (AllL.cons_ rfl (AllL.cons_ rfl trivial)))))))) (AllL.cons_ FK2 (AllL.cons_ FK2 trivial)) ?_
              refine At.famSetG y (by omega) (AllL.cons_ rfl (AllL.cons_ rfl (AllL.cons_ rfl (AllL.cons_ rfl (AllL.cons_ rfl (AllL.cons_ rfl (AllL.cons_ rfl trivial))))))) rfl (AllL.cons_ rfl trivial) ?_
              refine At.toM [(0, _), (1, _), (7, _), (8, _), (9, _), (10, _), (12, _), (18, _), (19, _), (20, iV ((d.write x.i (x.B.l.take ((min x.B.l.length 70) - 0))).2))] [(0, _), (97, _), (100, _), (101, _), (102, _), (103, _), (1097, _)] [famG 100000 5 (es.set (x.i).toNat y), famR 100001 (L.map ActE.B)] (AllL.cons_ (rfl) (AllL.cons_ (rfl) (AllL.cons_ (rfl) (AllL.cons_ (rfl) (AllL.cons_ (rfl) (AllL.cons_ (rfl) (AllL.cons_ (rfl) (AllL.cons_ (rfl) (AllL.cons_ (rfl) (AllL.cons_ ((by rw [hz1]; rfl)) trivial)))))))))) (AllL.cons_ (rfl) (AllL.cons_ (rfl) (AllL.cons_ (rfl) (AllL.cons_ (rfl) (AllL.cons_ (rfl) (AllL.cons_ (rfl) (AllL.cons_ (rfl) trivial))))))) (AllL.cons_ FK2 (AllL.cons_ FK2 trivial)) ?_
              exact hKj5 _ _ ⟨(d.write x.i (x.B.l.take ((min x.B.l.length 70) - 0))).1, (d.write x.i (x.B.l.take ((min x.B.l.length 70) - 0))).2, (es.set (x.i).toNat y), rfl, rfl, (DM.write_ok hok (by omega)), (DM.write_n.trans hdn), (by have := DM.write_wr (d := d) (i := x.i) (l := (x.B.l.take ((min x.B.l.length 70) - 0))); omega), (SecOk.writeI hok hs hc1 hll hyl), (ok_set hes hyo _)⟩
            · -- case 1
             have hcn : mayE d.off n x.i ≠ 0 ∨ ((min x.B.l.length 70) - 0) ≠ 64 := by rw [← hdn]; rcases Classical.em (mayE d.off d.n x.i = 0) with h | h; exact .inr (fun h2 => hc ⟨h, h2⟩); exact .inl h
             have hll : (x.B.l.take ((min x.B.l.length 70) - 0)).length = ((min x.B.l.length 70) - 0) := LN
             obtain ⟨hz1, hz2⟩ := wr_no (d := d) (i := x.i) (l := (x.B.l.take ((min x.B.l.length 70) - 0))) (by rw [hll, hdn]; exact hcn)
             refine At.bBruteG [4, 9, 14] (fun fr H => fr = frOf [(0, iV (n : Int)), (1, .slice A nr c), (7, ptr b0 0), (8, iV 0), (9, ptr bw 0), (10, iV (k : Int)), (12, ptr bc97 0), (18, iV ((d.write x.i (x.B.l.take ((min x.B.l.length 70) - 0))).2)), (19, iV ((d.write x.i (x.B.l.take ((min x.B.l.length 70) - 0))).2)), (20, iV (if mayE d.off n x.i ≠ 0 then mayE d.off n x.i else 1))] ∧ H = famsOf (hOf [(0, ⟨false, b, q, 0, encs ActN L, 0⟩), (97, (DM.row ((d.write x.i (x.B.l.take ((min x.B.l.length 70) - 0))).1) true bc97 bcs97 cc97)), (100, (DM.row ((d.write x.i (x.B.l.take ((min x.B.l.length 70) - 0))).1) true b0 b1 n)), (101, (rowS true b1 ((d.write x.i (x.B.l.take ((min x.B.l.length 70) - 0))).1).S 0)), (102, ⟨true, bw, 0, 46, [.slice Aw n cw, .bool (((d.write x.i (x.B.l.take ((min x.B.l.length 70) - 0))).1).off), iV (((d.write x.i (x.B.l.take ((min x.B.l.length 70) - 0))).1).till), iV (((d.write x.i (x.B.l.take ((min x.B.l.length 70) - 0))).1).torn : Int), iV (((d.write x.i (x.B.l.take ((min x.B.l.length 70) - 0))).1).wr)], 0⟩), (103, ⟨true, bS, 0, 27, (es).map BG.v, cw - n⟩), (1097, (rowS true bcs97 ((d.write x.i (x.B.l.take ((min x.B.l.length 70) - 0))).1).S ((cc97 - d.n) * 64)))]) [famG 100000 5 es, famR 100001 (L.map ActE.B)] ∧ True) (by kernel_rfl) ?_ ?_
             ·
              intro Kb hKb G hGi hGo
              have hG27_0  : G 0 #[true, true, true, true, true, true, true, true, true, true, true, true, true, true, true, true, true, true] (frOf [(0, iV (n : Int)), (1, .slice A nr c), (7, ptr b0 0), (8, iV 0), (9, ptr bw 0), (10, iV (k : Int)), (12, ptr bc97 0), (18, iV ((d.write x.i (x.B.l.take ((min x.B.l.length 70) - 0))).2)), (19, iV ((d.write x.i (x.B.l.take ((min x.B.l.length 70) - 0))).2)), (20, iV (if mayE d.off n x.i ≠ 0 then mayE d.off n x.i else 1))]) (famsOf (hOf [(0, ⟨false, b, q, 0, encs ActN L, 0⟩), (97, (DM.row ((d.write x.i (x.B.l.take ((min x.B.l.length 70) - 0))).1) true bc97 bcs97 cc97)), (100, (DM.row ((d.write x.i (x.B.l.take ((min x.B.l.length 70) - 0))).1) true b0 b1 n)), (101, (rowS true b1 ((d.write x.i (x.B.l.take ((min x.B.l.length 70) - 0))).1).S 0)), (102, ⟨true, bw, 0, 46, [.slice Aw n cw, .bool (((d.write x.i (x.B.l.take ((min x.B.l.length 70) - 0))).1).off), iV (((d.write x.i (x.B.l.take ((min x.B.l.length 70) - 0))).1).till), iV (((d.write x.i (x.B.l.take ((min x.B.l.length 70) - 0))).1).torn : Int), iV (((d.write x.i (x.B.l.take ((min x.B.l.length 70) - 0))).1).wr)], 0⟩), (103, ⟨true, bS, 0, 27, (es).map BG.v, cw - n⟩), (1097, (rowS true bcs97 ((d.write x.i (x.B.l.take ((min x.B.l.length 70) - 0))).1).S ((cc97 - d.n) * 64)))]) [famG 100000 5 es, famR 100001 (L.map ActE.B)]) := by
               refine hGo ?_
               refine At.bEnd (by kernel_rfl) ?_
               refine At.next ?_
               exact hKb _ _ ⟨rfl, rfl, trivial⟩
              have hG27_1  : G 4 #[true, true, true, true, true, true, true, true, true, true, true, true, true, true, false, false, false, false] (frOf [(0, iV (n : Int)), (1, .slice A nr c), (7, ptr b0 0), (8, iV 0), (9, ptr bw 0), (10, iV (k : Int)), (12, ptr bc97 0), (163, iV ((d.write x.i (x.B.l.take ((min x.B.l.length 70) - 0))).2)), (168, iV ((d.write x.i (x.B.l.take ((min x.B.l.length 70) - 0))).2)), (169, ptr bw 0), (171, iV x.i), (172, .slice (cut x.B.A 0 x.B.c 1) ((min x.B.l.length 70) - 0) (x.B.c - 0))]) (famsOf (hOf [(0, ⟨false, b, q, 0, encs ActN L, 0⟩), (97, (DM.row ((d.write x.i (x.B.l.take ((min x.B.l.length 70) - 0))).1) true bc97 bcs97 cc97)), (100, (DM.row ((d.write x.i (x.B.l.take ((min x.B.l.length 70) - 0))).1) true b0 b1 n)), (101, (rowS true b1 ((d.write x.i (x.B.l.take ((min x.B.l.length 70) - 0))).1).S 0)), (102, ⟨true, bw, 0, 46, [.slice Aw n cw, .bool d.off, iV d.till, iV (d.torn : Int), iV d.wr], 0⟩), (103, ⟨true, bS, 0, 27, (es).map BG.v, cw - n⟩), (400, pRow x.B.b x.B.q x.B.l), (1097, (rowS true bcs97 ((d.write x.i (x.B.l.take ((min x.B.l.length 70) - 0))).1).S ((cc97 - d.n) * 64)))]) [famG 100000 5 es, famR 100001 (L.map ActE.B)]) := by
               refine hGo ?_
               refine At.bStep [14] (by kernel_rfl) (by simp) ?_
               refine At.bS true (by kernel_rfl) (S_callR (some 173) [(102, _), (103, _)] [] [102, 103] (vs := [_, _, _]) rfl en22 rfl (ON rfl rfl (ON rfl rfl O0)) (by simp) V0 (by simp) (r_WriteN (bw := bw) (bS := bS) (cw := cw) (torn := d.torn) (m := n) (off := d.off) (till := d.till) (wr := d.wr) (es := es) (Aw := Aw) (i := x.i) (A := (cut x.B.A 0 x.B.c 1)) (nl := ((min x.B.l.length 70) - 0)) (c := (x.B.c - 0)) hAw hcw (by first | assumption | omega) (by omega) hcn) (by rintro _ _ ⟨rfl, rfl⟩; rfl) ?_)
               rintro _ _ ⟨rfl, rfl⟩
               refine At.row 102 (⟨true, bw, 0, 46, [.slice Aw n cw, .bool (((d.write x.i (x.B.l.take ((min x.B.l.length 70) - 0))).1).off), iV (((d.write x.i (x.B.l.take ((min x.B.l.length 70) - 0))).1).till), iV (((d.write x.i (x.B.l.take ((min x.B.l.length 70) - 0))).1).torn : Int), iV (((d.write x.i (x.B.l.take ((min x.B.l.length 70) - 0))).1).wr)], 0⟩) rfl (by rw [hz1]) ?_
               refine At.bP  15 (some 18) (P_assign rfl rfl) (by kernel_rfl) (by kernel_rfl) ?_
               refine At.bP  16 (some 19) (P_assign rfl rfl) (by kernel_rfl) (by kernel_rfl) ?_
               refine At.bP  17 (some 20) (P_assign rfl rfl) (by kernel_rfl) (by kernel_rfl) ?_
               exact At.intoF (hGi (hG27_0 )) rfl rfl (AllL.cons_ FK2 (AllL.cons_ FK2 trivial))
              have hG27_2  : G 5 #[true, true, true, true, true, true, true, true, true, false, true, true, true, true, false, false, false, false] (frOf [(0, iV (n : Int)), (1, .slice A nr c), (7, ptr b0 0), (8, iV 0), (9, ptr bw 0), (10, iV (k : Int)), (12, ptr bc97 0), (163, iV ((d.write x.i (x.B.l.take ((min x.B.l.length 70) - 0))).2)), (164, ptr b0 0), (166, iV x.i), (167, .slice (cut x.B.A 0 x.B.c 1) ((min x.B.l.length 70) - 0) (x.B.c - 0)), (169, ptr bw 0), (171, iV x.i), (172, .slice (cut x.B.A 0 x.B.c 1) ((min x.B.l.length 70) - 0) (x.B.c - 0))]) (famsOf (hOf [(0, ⟨false, b, q, 0, encs ActN L, 0⟩), (97, (DM.row ((d.write x.i (x.B.l.take ((min x.B.l.length 70) - 0))).1) true bc97 bcs97 cc97)), (100, (DM.row d true b0 b1 n)), (101, (rowS true b1 d.S 0)), (102, ⟨true, bw, 0, 46, [.slice Aw n cw, .bool d.off, iV d.till, iV (d.torn : Int), iV d.wr], 0⟩), (103, ⟨true, bS, 0, 27, (es).map BG.v, cw - n⟩), (400, pRow x.B.b x.B.q x.B.l), (1097, (rowS true bcs97 ((d.write x.i (x.B.l.take ((min x.B.l.length 70) - 0))).1).S ((cc97 - d.n) * 64)))]) [famG 100000 5 es, famR 100001 (L.map ActE.B)]) := by
               clear hG27_0
               refine hGo ?_
               refine At.bStep [9] (by kernel_rfl) (by simp) ?_
               refine At.bS true (by kernel_rfl) (S_callR (some 168) [(100, _), (101, _)] [(400, _)] [100, 101] (vs := [_, _, _]) rfl en11 rfl (ON rfl rfl (ON rfl rfl O0)) (by simp) (VN (by simp) rfl (View.sub (j := 0) (m := ((min x.B.l.length 70) - 0)) RO rfl) V0) (by simp) (c_WriteN d hok b0 b1 n 0 (by first | omega | exact (show d.n ≤ n by omega)) (i := x.i) (A := (cut x.B.A 0 x.B.c 1)) (ca := (x.B.c - 0)) (bq := x.B.b) (q := x.B.q) (l := (x.B.l.take ((min x.B.l.length 70) - 0))) (nl := ((min x.B.l.length 70) - 0)) LN (fun h => cut_zero ((fun h => BG.adrR hxo (by omega)) (by omega)))) (by rintro _ _ ⟨rfl, rfl⟩; rfl) ?_)
               rintro _ _ ⟨rfl, rfl⟩
               exact At.intoF (hGi (hG27_1 )) rfl rfl (AllL.cons_ FK2 (AllL.cons_ FK2 trivial))
              have hG27_3  : G 6 #[true, true, true, true, true, true, true, true, true, false, true, true, false, true, false, false, false, false] (frOf [(0, iV (n : Int)), (1, .slice A nr c), (7, ptr b0 0), (8, iV 0), (9, ptr bw 0), (10, iV (k : Int)), (12, ptr bc97 0), (163, iV ((d.write x.i (x.B.l.take ((min x.B.l.length 70) - 0))).2)), (164, ptr b0 0), (166, iV x.i), (167, .slice (cut x.B.A 0 x.B.c 1) ((min x.B.l.length 70) - 0) (x.B.c - 0)), (169, ptr bw 0), (170, ptr b11 1), (172, .slice (cut x.B.A 0 x.B.c 1) ((min x.B.l.length 70) - 0) (x.B.c - 0))]) (famsOf (hOf [(0, ⟨false, b, q, 0, encs ActN L, 0⟩), (11, ⟨true, b11, 0, 40, [iV x.w, iV x.i, iV x.n, .slice x.B.A x.B.l.length x.B.c], 0⟩), (97, (DM.row ((d.write x.i (x.B.l.take ((min x.B.l.length 70) - 0))).1) true bc97 bcs97 cc97)), (100, (DM.row d true b0 b1 n)), (101, (rowS true b1 d.S 0)), (102, ⟨true, bw, 0, 46, [.slice Aw n cw, .bool d.off, iV d.till, iV (d.torn : Int), iV d.wr], 0⟩), (103, ⟨true, bS, 0, 27, (es).map BG.v, cw - n⟩), (400, pRow x.B.b x.B.q x.B.l), (1097, (rowS true bcs97 ((d.write x.i (x.B.l.take ((min x.B.l.length 70) - 0))).1).S ((cc97 - d.n) * 64)))]) [famG 100000 5 es, famR 100001 (L.map ActE.B)]) := by
               clear hG27_0
               refine hGo ?_
               refine At.bStep [9, 12] (by kernel_rfl) (by simp) ?_
               refine ⟨?_, ?_⟩
               ·
                refine At.bS true (by kernel_rfl) (S_callR (some 168) [(100, _), (101, _)] [(400, _)] [100, 101] (vs := [_, _, _]) rfl en11 rfl (ON rfl rfl (ON rfl rfl O0)) (by simp) (VN (by simp) rfl (View.sub (j := 0) (m := ((min x.B.l.length 70) - 0)) RO rfl) V0) (by simp) (c_WriteN d hok b0 b1 n 0 (by first | omega | exact (show d.n ≤ n by omega)) (i := x.i) (A := (cut x.B.A 0 x.B.c 1)) (ca := (x.B.c - 0)) (bq := x.B.b) (q := x.B.q) (l := (x.B.l.take ((min x.B.l.length 70) - 0))) (nl := ((min x.B.l.length 70) - 0)) LN (fun h => cut_zero ((fun h => BG.adrR hxo (by omega)) (by omega)))) (by rintro _ _ ⟨rfl, rfl⟩; rfl) ?_)
                rintro _ _ ⟨rfl, rfl⟩
                refine At.bQ  12 (some 171) (Q_loadO (k := 11) rfl rfl Try.underlying3 rfl rfl rfl) (by kernel_rfl) (by kernel_rfl) ?_
                exact At.intoF (hGi (hG27_1 )) rfl rfl (AllL.cons_ FK2 (AllL.cons_ FK2 trivial))
               ·
                refine At.bSQ (some 171) (Q_loadO (k := 11) rfl rfl Try.underlying3 rfl rfl rfl) ?_
                exact At.intoF (hGi (hG27_2 )) rfl rfl (AllL.cons_ FK2 (AllL.cons_ FK2 trivial))
              have hG27_4  : G 6 #[true, true, true, true, true, true, true, false, true, false, true, true, true, true, false, false, false, false] (frOf [(0, iV (n : Int)), (1, .slice A nr c), (7, ptr b0 0), (8, iV 0), (9, ptr bw 0), (10, iV (k : Int)), (12, ptr bc97 0), (163, iV ((d.write x.i (x.B.l.take ((min x.B.l.length 70) - 0))).2)), (164, ptr b0 0), (165, ptr b11 1), (167, .slice (cut x.B.A 0 x.B.c 1) ((min x.B.l.length 70) - 0) (x.B.c - 0)), (169, ptr bw 0), (171, iV x.i), (172, .slice (cut x.B.A 0 x.B.c 1) ((min x.B.l.length 70) - 0) (x.B.c - 0))]) (famsOf (hOf [(0, ⟨false, b, q, 0, encs ActN L, 0⟩), (11, ⟨true, b11, 0, 40, [iV x.w, iV x.i, iV x.n, .slice x.B.A x.B.l.length x.B.c], 0⟩), (97, (DM.row ((d.write x.i (x.B.l.take ((min x.B.l.length 70) - 0))).1) true bc97 bcs97 cc97)), (100, (DM.row d true b0 b1 n)), (101, (rowS true b1 d.S 0)), (102, ⟨true, bw, 0, 46, [.slice Aw n cw, .bool d.off, iV d.till, iV (d.torn : Int), iV d.wr], 0⟩), (103, ⟨true, bS, 0, 27, (es).map BG.v, cw - n⟩), (400, pRow x.B.b x.B.q x.B.l), (1097, (rowS true bcs97 ((d.write x.i (x.B.l.take ((min x.B.l.length 70) - 0))).1).S ((cc97 - d.n) * 64)))]) [famG 100000 5 es, famR 100001 (L.map ActE.B)]) := by
               clear hG27_0 hG27_1 hG27_3
               refine hGo ?_
               refine At.bStep [7] (by kernel_rfl) (by simp) ?_
               refine At.bSQ (some 166) (Q_loadO (k := 11) rfl rfl Try.underlying3 rfl rfl rfl) ?_
               exact At.intoF (hGi (hG27_2 )) rfl rfl (AllL.cons_ FK2 (AllL.cons_ FK2 trivial))
              have hG27_5  : G 6 #[true, true, true, true, false, true, true, true, true, false, true, true, true, true, false, false, false, false] (frOf [(0, iV (n : Int)), (1, .slice A nr c), (7, ptr b0 0), (8, iV 0), (9, ptr bw 0), (10, iV (k : Int)), (12, ptr bc97 0), (159, ptr bc97 0), (161, iV x.i), (162, .slice (cut x.B.A 0 x.B.c 1) ((min x.B.l.length 70) - 0) (x.B.c - 0)), (164, ptr b0 0), (166, iV x.i), (167, .slice (cut x.B.A 0 x.B.c 1) ((min x.B.l.length 70) - 0) (x.B.c - 0)), (169, ptr bw 0), (171, iV x.i), (172, .slice (cut x.B.A 0 x.B.c 1) ((min x.B.l.length 70) - 0) (x.B.c - 0))]) (famsOf (hOf [(0, ⟨false, b, q, 0, encs ActN L, 0⟩), (97, (DM.row d true bc97 bcs97 cc97)), (100, (DM.row d true b0 b1 n)), (101, (rowS true b1 d.S 0)), (102, ⟨true, bw, 0, 46, [.slice Aw n cw, .bool d.off, iV d.till, iV (d.torn : Int), iV d.wr], 0⟩), (103, ⟨true, bS, 0, 27, (es).map BG.v, cw - n⟩), (400, pRow x.B.b x.B.q x.B.l), (1097, (rowS true bcs97 d.S ((cc97 - d.n) * 64)))]) [famG 100000 5 es, famR 100001 (L.map ActE.B)]) := by
               clear hG27_0 hG27_1 hG27_3 hG27_4
               refine hGo ?_
               refine At.bStep [4] (by kernel_rfl) (by simp) ?_
               refine At.bS true (by kernel_rfl) (S_callR (some 163) [(97, _), (1097, _)] [(400, _)] [97, 1097] (vs := [_, _, _]) rfl en11 rfl (ON rfl rfl (ON rfl rfl O0)) (by simp) (VN (by simp) rfl (View.sub (j := 0) (m := ((min x.B.l.length 70) - 0)) RO rfl) V0) (by simp) (c_WriteN d hok bc97 bcs97 cc97 ((cc97 - d.n) * 64) (by first | omega | exact (show d.n ≤ cc97 by omega)) (i := x.i) (A := (cut x.B.A 0 x.B.c 1)) (ca := (x.B.c - 0)) (bq := x.B.b) (q := x.B.q) (l := (x.B.l.take ((min x.B.l.length 70) - 0))) (nl := ((min x.B.l.length 70) - 0)) LN (fun h => cut_zero ((fun h => BG.adrR hxo (by omega)) (by omega)))) (by rintro _ _ ⟨rfl, rfl⟩; rfl) ?_)
               rintro _ _ ⟨rfl, rfl⟩
               exact At.intoF (hGi (hG27_2 )) rfl rfl (AllL.cons_ FK2 (AllL.cons_ FK2 trivial))
              have hG27_6  : G 7 #[true, true, true, true, true, true, true, false, true, false, true, true, false, true, false, false, false, false] (frOf [(0, iV (n : Int)), (1, .slice A nr c), (7, ptr b0 0), (8, iV 0), (9, ptr bw 0), (10, iV (k : Int)), (12, ptr bc97 0), (163, iV ((d.write x.i (x.B.l.take ((min x.B.l.length 70) - 0))).2)), (164, ptr b0 0), (165, ptr b11 1), (167, .slice (cut x.B.A 0 x.B.c 1) ((min x.B.l.length 70) - 0) (x.B.c - 0)), (169, ptr bw 0), (170, ptr b11 1), (172, .slice (cut x.B.A 0 x.B.c 1) ((min x.B.l.length 70) - 0) (x.B.c - 0))]) (famsOf (hOf [(0, ⟨false, b, q, 0, encs ActN L, 0⟩), (11, ⟨true, b11, 0, 40, [iV x.w, iV x.i, iV x.n, .slice x.B.A x.B.l.length x.B.c], 0⟩), (97, (DM.row ((d.write x.i (x.B.l.take ((min x.B.l.length 70) - 0))).1) true bc97 bcs97 cc97)), (100, (DM.row d true b0 b1 n)), (101, (rowS true b1 d.S 0)), (102, ⟨true, bw, 0, 46, [.slice Aw n cw, .bool d.off, iV d.till, iV (d.torn : Int), iV d.wr], 0⟩), (103, ⟨true, bS, 0, 27, (es).map BG.v, cw - n⟩), (400, pRow x.B.b x.B.q x.B.l), (1097, (rowS true bcs97 ((d.write x.i (x.B.l.take ((min x.B.l.length 70) - 0))).1).S ((cc97 - d.n) * 64)))]) [famG 100000 5 es, famR 100001 (L.map ActE.B)]) := by
               clear hG27_0 hG27_1 hG27_2 hG27_5
               refine hGo ?_
               refine At.bStep [7, 12] (by kernel_rfl) (by simp) ?_
               refine ⟨?_, ?_⟩
               ·
                refine At.bSQ (some 166) (Q_loadO (k := 11) rfl rfl Try.underlying3 rfl rfl rfl) ?_
                exact At.intoF (hGi (hG27_3 )) rfl rfl (AllL.cons_ FK2 (AllL.cons_ FK2 trivial))
               ·
                refine At.bSQ (some 171) (Q_loadO (k := 11) rfl rfl Try.underlying3 rfl rfl rfl) ?_
                exact At.intoF (hGi (hG27_4 )) rfl rfl (AllL.cons_ FK2 (AllL.cons_ FK2 trivial))
              have hG27_7  : G 7 #[true, true, true, true, false, true, true, true, true, false, true, true, false, true, false, false, false, false] (frOf [(0, iV (n : Int)), (1, .slice A nr c), (7, ptr b0 0), (8, iV 0), (9, ptr bw 0), (10, iV (k : Int)), (12, ptr bc97 0), (159, ptr bc97 0), (161, iV x.i), (162, .slice (cut x.B.A 0 x.B.c 1) ((min x.B.l.length 70) - 0) (x.B.c - 0)), (164, ptr b0 0), (166, iV x.i), (167, .slice (cut x.B.A 0 x.B.c 1) ((min x.B.l.length 70) - 0) (x.B.c - 0)), (169, ptr bw 0), (170, ptr b11 1), (172, .slice (cut x.B.A 0 x.B.c 1) ((min x.B.l.length 70) - 0) (x.B.c - 0))]) (famsOf (hOf [(0, ⟨false, b, q, 0, encs ActN L, 0⟩), (11, ⟨true, b11, 0, 40, [iV x.w, iV x.i, iV x.n, .slice x.B.A x.B.l.length x.B.c], 0⟩), (97, (DM.row d true bc97 bcs97 cc97)), (100, (DM.row d true b0 b1 n)), (101, (rowS true b1 d.S 0)), (102, ⟨true, bw, 0, 46, [.slice Aw n cw, .bool d.off, iV d.till, iV (d.torn : Int), iV d.wr], 0⟩), (103, ⟨true, bS, 0, 27, (es).map BG.v, cw - n⟩), (400, pRow x.B.b x.B.q x.B.l), (1097, (rowS true bcs97 d.S ((cc97 - d.n) * 64)))]) [famG 100000 5 es, famR 100001 (L.map ActE.B)]) := by
               clear hG27_0 hG27_1 hG27_2 hG27_4 hG27_6
               refine hGo ?_
               refine At.bStep [4, 12] (by kernel_rfl) (by simp) ?_
               refine ⟨?_, ?_⟩
               ·
                refine At.bS true (by kernel_rfl) (S_callR (some 163) [(97, _), (1097, _)] [(400, _)] [97, 1097] (vs := [_, _, _]) rfl en11 rfl (ON rfl rfl (ON rfl rfl O0)) (by simp) (VN (by simp) rfl (View.sub (j := 0) (m := ((min x.B.l.length 70) - 0)) RO rfl) V0) (by simp) (c_WriteN d hok bc97 bcs97 cc97 ((cc97 - d.n) * 64) (by first | omega | exact (show d.n ≤ cc97 by omega)) (i := x.i) (A := (cut x.B.A 0 x.B.c 1)) (ca := (x.B.c - 0)) (bq := x.B.b) (q := x.B.q) (l := (x.B.l.take ((min x.B.l.length 70) - 0))) (nl := ((min x.B.l.length 70) - 0)) LN (fun h => cut_zero ((fun h => BG.adrR hxo (by omega)) (by omega)))) (by rintro _ _ ⟨rfl, rfl⟩; rfl) ?_)
                rintro _ _ ⟨rfl, rfl⟩
                exact At.intoF (hGi (hG27_3 )) rfl rfl (AllL.cons_ FK2 (AllL.cons_ FK2 trivial))
               ·
                refine At.bSQ (some 171) (Q_loadO (k := 11) rfl rfl Try.underlying3 rfl rfl rfl) ?_
                exact At.intoF (hGi (hG27_5 )) rfl rfl (AllL.cons_ FK2 (AllL.cons_ FK2 trivial))
              have hG27_8  : G 7 #[true, true, true, true, false, true, true, false, true, false, true, true, true, true, false, false, false, false] (frOf [(0, iV (n : Int)), (1, .slice A nr c), (7, ptr b0 0), (8, iV 0), (9, ptr bw 0), (10, iV (k : Int)), (12, ptr bc97 0), (159, ptr bc97 0), (161, iV x.i), (162, .slice (cut x.B.A 0 x.B.c 1) ((min x.B.l.length 70) - 0) (x.B.c - 0)), (164, ptr b0 0), (165, ptr b11 1), (167, .slice (cut x.B.A 0 x.B.c 1) ((min x.B.l.length 70) - 0) (x.B.c - 0)), (169, ptr bw 0), (171, iV x.i), (172, .slice (cut x.B.A 0 x.B.c 1) ((min x.B.l.length 70) - 0) (x.B.c - 0))]) (famsOf (hOf [(0, ⟨false, b, q, 0, encs ActN L, 0⟩), (11, ⟨true, b11, 0, 40, [iV x.w, iV x.i, iV x.n, .slice x.B.A x.B.l.length x.B.c], 0⟩), (97, (DM.row d true bc97 bcs97 cc97)), (100, (DM.row d true b0 b1 n)), (101, (rowS true b1 d.S 0)), (102, ⟨true, bw, 0, 46, [.slice Aw n cw, .bool d.off, iV d.till, iV (d.torn : Int), iV d.wr], 0⟩), (103, ⟨true, bS, 0, 27, (es).map BG.v, cw - n⟩), (400, pRow x.B.b x.B.q x.B.l), (1097, (rowS true bcs97 d.S ((cc97 - d.n) * 64)))]) [famG 100000 5 es, famR 100001 (L.map ActE.B)]) := by
               clear hG27_0 hG27_1 hG27_2 hG27_3 hG27_6 hG27_7
               refine hGo ?_
               refine At.bStep [4, 7] (by kernel_rfl) (by simp) ?_
               refine ⟨?_, ?_⟩
               ·
                refine At.bS true (by kernel_rfl) (S_callR (some 163) [(97, _), (1097, _)] [(400, _)] [97, 1097] (vs := [_, _, _]) rfl en11 rfl (ON rfl rfl (ON rfl rfl O0)) (by simp) (VN (by simp) rfl (View.sub (j := 0) (m := ((min x.B.l.length 70) - 0)) RO rfl) V0) (by simp) (c_WriteN d hok bc97 bcs97 cc97 ((cc97 - d.n) * 64) (by first | omega | exact (show d.n ≤ cc97 by omega)) (i := x.i) (A := (cut x.B.A 0 x.B.c 1)) (ca := (x.B.c - 0)) (bq := x.B.b) (q := x.B.q) (l := (x.B.l.take ((min x.B.l.length 70) - 0))) (nl := ((min x.B.l.length 70) - 0)) LN (fun h => cut_zero ((fun h => BG.adrR hxo (by omega)) (by omega)))) (by rintro _ _ ⟨rfl, rfl⟩; rfl) ?_)
                rintro _ _ ⟨rfl, rfl⟩
                exact At.intoF (hGi (hG27_4 )) rfl rfl (AllL.cons_ FK2 (AllL.cons_ FK2 trivial))
               ·
                refine At.bSQ (some 166) (Q_loadO (k := 11) rfl rfl Try.underlying3 rfl rfl rfl) ?_
                exact At.intoF (hGi (hG27_5 )) rfl rfl (AllL.cons_ FK2 (AllL.cons_ FK2 trivial))
              have hG27_9  : G 7 #[true, true, false, true, false, true, true, true, true, false, true, true, true, true, false, false, false, false] (frOf [(0, iV (n : Int)), (1, .slice A nr c), (7, ptr b0 0), (8, iV 0), (9, ptr bw 0), (10, iV (k : Int)), (12, ptr bc97 0), (159, ptr bc97 0), (160, ptr b11 1), (162, .slice (cut x.B.A 0 x.B.c 1) ((min x.B.l.length 70) - 0) (x.B.c - 0)), (164, ptr b0 0), (166, iV x.i), (167, .slice (cut x.B.A 0 x.B.c 1) ((min x.B.l.length 70) - 0) (x.B.c - 0)), (169, ptr bw 0), (171, iV x.i), (172, .slice (cut x.B.A 0 x.B.c 1) ((min x.B.l.length 70) - 0) (x.B.c - 0))]) (famsOf (hOf [(0, ⟨false, b, q, 0, encs ActN L, 0⟩), (11, ⟨true, b11, 0, 40, [iV x.w, iV x.i, iV x.n, .slice x.B.A x.B.l.length x.B.c], 0⟩), (97, (DM.row d true bc97 bcs97 cc97)), (100, (DM.row d true b0 b1 n)), (101, (rowS true b1 d.S 0)), (102, ⟨true, bw, 0, 46, [.slice Aw n cw, .bool d.off, iV d.till, iV (d.torn : Int), iV d.wr], 0⟩), (103, ⟨true, bS, 0, 27, (es).map BG.v, cw - n⟩), (400, pRow x.B.b x.B.q x.B.l), (1097, (rowS true bcs97 d.S ((cc97 - d.n) * 64)))]) [famG 100000 5 es, famR 100001 (L.map ActE.B)]) := by
               clear hG27_0 hG27_1 hG27_2 hG27_3 hG27_4 hG27_6 hG27_7 hG27_8
               refine hGo ?_
               refine At.bStep [2] (by kernel_rfl) (by simp) ?_
               refine At.bSQ (some 161) (Q_loadO (k := 11) rfl rfl Try.underlying3 rfl rfl rfl) ?_
               exact At.intoF (hGi (hG27_5 )) rfl rfl (AllL.cons_ FK2 (AllL.cons_ FK2 trivial))
              have hG27_10  : G 8 #[true, true, true, true, false, true, true, false, true, false, true, true, false, true, false, false, false, false] (frOf [(0, iV (n : Int)), (1, .slice A nr c), (7, ptr b0 0), (8, iV 0), (9, ptr bw 0), (10, iV (k : Int)), (12, ptr bc97 0), (159, ptr bc97 0), (161, iV x.i), (162, .slice (cut x.B.A 0 x.B.c 1) ((min x.B.l.length 70) - 0) (x.B.c - 0)), (164, ptr b0 0), (165, ptr b11 1), (167, .slice (cut x.B.A 0 x.B.c 1) ((min x.B.l.length 70) - 0) (x.B.c - 0)), (169, ptr bw 0), (170, ptr b11 1), (172, .slice (cut x.B.A 0 x.B.c 1) ((min x.B.l.length 70) - 0) (x.B.c - 0))]) (famsOf (hOf [(0, ⟨false, b, q, 0, encs ActN L, 0⟩), (11, ⟨true, b11, 0, 40, [iV x.w, iV x.i, iV x.n, .slice x.B.A x.B.l.length x.B.c], 0⟩), (97, (DM.row d true bc97 bcs97 cc97)), (100, (DM.row d true b0 b1 n)), (101, (rowS true b1 d.S 0)), (102, ⟨true, bw, 0, 46, [.slice Aw n cw, .bool d.off, iV d.till, iV (d.torn : Int), iV d.wr], 0⟩), (103, ⟨true, bS, 0, 27, (es).map BG.v, cw - n⟩), (400, pRow x.B.b x.B.q x.B.l), (1097, (rowS true bcs97 d.S ((cc97 - d.n) * 64)))]) [famG 100000 5 es, famR 100001 (L.map ActE.B)]) := by
               clear hG27_0 hG27_1 hG27_2 hG27_3 hG27_4 hG27_5 hG27_9
               refine hGo ?_
               refine At.bStep [4, 7, 12] (by kernel_rfl) (by simp) ?_
               refine ⟨?_, ?_, ?_⟩
               ·
                refine At.bS true (by kernel_rfl) (S_callR (some 163) [(97, _), (1097, _)] [(400, _)] [97, 1097] (vs := [_, _, _]) rfl en11 rfl (ON rfl rfl (ON rfl rfl O0)) (by simp) (VN (by simp) rfl (View.sub (j := 0) (m := ((min x.B.l.length 70) - 0)) RO rfl) V0) (by simp) (c_WriteN d hok bc97 bcs97 cc97 ((cc97 - d.n) * 64) (by first | omega | exact (show d.n ≤ cc97 by omega)) (i := x.i) (A := (cut x.B.A 0 x.B.c 1)) (ca := (x.B.c - 0)) (bq := x.B.b) (q := x.B.q) (l := (x.B.l.take ((min x.B.l.length 70) - 0))) (nl := ((min x.B.l.length 70) - 0)) LN (fun h => cut_zero ((fun h => BG.adrR hxo (by omega)) (by omega)))) (by rintro _ _ ⟨rfl, rfl⟩; rfl) ?_)
                rintro _ _ ⟨rfl, rfl⟩
                exact At.intoF (hGi (hG27_6 )) rfl rfl (AllL.cons_ FK2 (AllL.cons_ FK2 trivial))
               ·
                refine At.bSQ (some 166) (Q_loadO (k := 11) rfl rfl Try.underlying3 rfl rfl rfl) ?_
                exact At.intoF (hGi (hG27_7 )) rfl rfl (AllL.cons_ FK2 (AllL.cons_ FK2 trivial))
               ·
                refine At.bSQ (some 171) (Q_loadO (k := 11) rfl rfl Try.underlying3 rfl rfl rfl) ?_
                exact At.intoF (hGi (hG27_8 )) rfl rfl (AllL.cons_ FK2 (AllL.cons_ FK2 trivial))
              have hG27_11  : G 8 #[true, true, false, true, false, true, true, true, true, false, true, true, false, true, false, false, false, false] (frOf [(0, iV (n : Int)), (1, .slice A nr c), (7, ptr b0 0), (8, iV 0), (9, ptr bw 0), (10, iV (k : Int)), (12, ptr bc97 0), (159, ptr bc97 0), (160, ptr b11 1), (162, .slice (cut x.B.A 0 x.B.c 1) ((min x.B.l.length 70) - 0) (x.B.c - 0)), (164, ptr b0 0), (166, iV x.i), (167, .slice (cut x.B.A 0 x.B.c 1) ((min x.B.l.length 70) - 0) (x.B.c - 0)), (169, ptr bw 0), (170, ptr b11 1), (172, .slice (cut x.B.A 0 x.B.c 1) ((min x.B.l.length 70) - 0) (x.B.c - 0))]) (famsOf (hOf [(0, ⟨false, b, q, 0, encs ActN L, 0⟩), (11, ⟨true, b11, 0, 40, [iV x.w, iV x.i, iV x.n, .slice x.B.A x.B.l.length x.B.c], 0⟩), (97, (DM.row d true bc97 bcs97 cc97)), (100, (DM.row d true b0 b1 n)), (101, (rowS true b1 d.S 0)), (102, ⟨true, bw, 0, 46, [.slice Aw n cw, .bool d.off, iV d.till, iV (d.torn : Int), iV d.wr], 0⟩), (103, ⟨true, bS, 0, 27, (es).map BG.v, cw - n⟩), (400, pRow x.B.b x.B.q x.B.l), (1097, (rowS true bcs97 d.S ((cc97 - d.n) * 64)))]) [famG 100000 5 es, famR 100001 (L.map ActE.B)]) := by
               clear hG27_0 hG27_1 hG27_2 hG27_3 hG27_4 hG27_5 hG27_6 hG27_8 hG27_10
               refine hGo ?_
               refine At.bStep [2, 12] (by kernel_rfl) (by simp) ?_
               refine ⟨?_, ?_⟩
               ·
                refine At.bSQ (some 161) (Q_loadO (k := 11) rfl rfl Try.underlying3 rfl rfl rfl) ?_
                exact At.intoF (hGi (hG27_7 )) rfl rfl (AllL.cons_ FK2 (AllL.cons_ FK2 trivial))
               ·
                refine At.bSQ (some 171) (Q_loadO (k := 11) rfl rfl Try.underlying3 rfl rfl rfl) ?_
                exact At.intoF (hGi (hG27_9 )) rfl rfl (AllL.cons_ FK2 (AllL.cons_ FK2 trivial))
              have hG27_12  : G 8 #[true, true, false, true, false, true, true, false, true, false, true, true, true, true, false, false, false, false] (frOf [(0, iV (n : Int)), (1, .slice A nr c), (7, ptr b0 0), (8, iV 0), (9, ptr bw 0), (10, iV (k : Int)), (12, ptr bc97 0), (159, ptr bc97 0), (160, ptr b11 1), (162, .slice (cut x.B.A 0 x.B.c 1) ((min x.B.l.length 70) - 0) (x.B.c - 0)), (164, ptr b0 0), (165, ptr b11 1), (167, .slice (cut x.B.A 0 x.B.c 1) ((min x.B.l.length 70) - 0) (x.B.c - 0)), (169, ptr bw 0), (171, iV x.i), (172, .slice (cut x.B.A 0 x.B.c 1) ((min x.B.l.length 70) - 0) (x.B.c - 0))]) (famsOf (hOf [(0, ⟨false, b, q, 0, encs ActN L, 0⟩), (11, ⟨true, b11, 0, 40, [iV x.w, iV x.i, iV x.n, .slice x.B.A x.B.l.length x.B.c], 0⟩), (97, (DM.row d true bc97 bcs97 cc97)), (100, (DM.row d true b0 b1 n)), (101, (rowS true b1 d.S 0)), (102, ⟨true, bw, 0, 46, [.slice Aw n cw, .bool d.off, iV d.till, iV (d.torn : Int), iV d.wr], 0⟩), (103, ⟨true, bS, 0, 27, (es).map BG.v, cw - n⟩), (400, pRow x.B.b x.B.q x.B.l), (1097, (rowS true bcs97 d.S ((cc97 - d.n) * 64)))]) [famG 100000 5 es, famR 100001 (L.map ActE.B)]) := by
               clear hG27_0 hG27_1 hG27_2 hG27_3 hG27_4 hG27_5 hG27_6 hG27_7 hG27_10 hG27_11
               refine hGo ?_
               refine At.bStep [2, 7] (by kernel_rfl) (by simp) ?_
               refine ⟨?_, ?_⟩
               ·
                refine At.bSQ (some 161) (Q_loadO (k := 11) rfl rfl Try.underlying3 rfl rfl rfl) ?_
                exact At.intoF (hGi (hG27_8 )) rfl rfl (AllL.cons_ FK2 (AllL.cons_ FK2 trivial))
               ·
                refine At.bSQ (some 166) (Q_loadO (k := 11) rfl rfl Try.underlying3 rfl rfl rfl) ?_
                exact At.intoF (hGi (hG27_9 )) rfl rfl (AllL.cons_ FK2 (AllL.cons_ FK2 trivial))
              have hG27_13  : G 9 #[true, true, false, true, false, true, true, false, true, false, true, true, false, true, false, false, false, false] (frOf [(0, iV (n : Int)), (1, .slice A nr c), (7, ptr b0 0), (8, iV 0), (9, ptr bw 0), (10, iV (k : Int)), (12, ptr bc97 0), (159, ptr bc97 0), (160, ptr b11 1), (162, .slice (cut x.B.A 0 x.B.c 1) ((min x.B.l.length 70) - 0) (x.B.c - 0)), (164, ptr b0 0), (165, ptr b11 1), (167, .slice (cut x.B.A 0 x.B.c 1) ((min x.B.l.length 70) - 0) (x.B.c - 0)), (169, ptr bw 0), (170, ptr b11 1), (172, .slice (cut x.B.A 0 x.B.c 1) ((min x.B.l.length 70) - 0) (x.B.c - 0))]) (famsOf (hOf [(0, ⟨false, b, q, 0, encs ActN L, 0⟩), (11, ⟨true, b11, 0, 40, [iV x.w, iV x.i, iV x.n, .slice x.B.A x.B.l.length x.B.c], 0⟩), (97, (DM.row d true bc97 bcs97 cc97)), (100, (DM.row d true b0 b1 n)), (101, (rowS true b1 d.S 0)), (102, ⟨true, bw, 0, 46, [.slice Aw n cw, .bool d.off, iV d.till, iV (d.torn : Int), iV d.wr], 0⟩), (103, ⟨true, bS, 0, 27, (es).map BG.v, cw - n⟩), (400, pRow x.B.b x.B.q x.B.l), (1097, (rowS true bcs97 d.S ((cc97 - d.n) * 64)))]) [famG 100000 5 es, famR 100001 (L.map ActE.B)]) := by
               clear hG27_0 hG27_1 hG27_2 hG27_3 hG27_4 hG27_5 hG27_6 hG27_7 hG27_8 hG27_9
               refine hGo ?_
               refine At.bStep [2, 7, 12] (by kernel_rfl) (by simp) ?_
               refine ⟨?_, ?_, ?_⟩
               ·
                refine At.bSQ (some 161) (Q_loadO (k := 11) rfl rfl Try.underlying3 rfl rfl rfl) ?_
                exact At.intoF (hGi (hG27_10 )) rfl rfl (AllL.cons_ FK2 (AllL.cons_ FK2 trivial))
               ·
                refine At.bSQ (some 166) (Q_loadO (k := 11) rfl rfl Try.underlying3 rfl rfl rfl) ?_
                exact At.intoF (hGi (hG27_11 )) rfl rfl (AllL.cons_ FK2 (AllL.cons_ FK2 trivial))
               ·
                refine At.bSQ (some 171) (Q_loadO (k := 11) rfl rfl Try.underlying3 rfl rfl rfl) ?_
                exact At.intoF (hGi (hG27_12 )) rfl rfl (AllL.cons_ FK2 (AllL.cons_ FK2 trivial))
              clear hG27_0 hG27_1 hG27_2 hG27_3 hG27_4 hG27_5 hG27_6 hG27_7 hG27_8 hG27_9 hG27_10 hG27_11 hG27_12
              refine hGo ?_
              refine At.bP  0 (some 159) (P_move rfl rfl) (by kernel_rfl) (by kernel_rfl) ?_
              refine At.bP  1 (some 160) (P_fieldAddr0 (off := 1) rfl Try.underlying40 rfl sz3 rfl rfl) (by kernel_rfl) (by kernel_rfl) ?_
              refine At.bP  3 (some 162) (P_move rfl rfl) (by kernel_rfl) (by kernel_rfl) ?_
              refine At.bP  5 (some 164) (P_move rfl rfl) (by kernel_rfl) (by kernel_rfl) ?_
              refine At.bP  6 (some 165) (P_fieldAddr0 (off := 1) rfl Try.underlying40 rfl sz3 rfl rfl) (by kernel_rfl) (by kernel_rfl) ?_
              refine At.bP  8 (some 167) (P_move rfl rfl) (by kernel_rfl) (by kernel_rfl) ?_
              refine At.bP  10 (some 169) (P_move rfl rfl) (by kernel_rfl) (by kernel_rfl) ?_
              refine At.bP  11 (some 170) (P_fieldAddr0 (off := 1) rfl Try.underlying40 rfl sz3 rfl rfl) (by kernel_rfl) (by kernel_rfl) ?_
              refine At.bP  13 (some 172) (P_move rfl rfl) (by kernel_rfl) (by kernel_rfl) ?_
              exact At.intoF (hGi (hG27_13 )) rfl rfl (AllL.cons_ FK2 (AllL.cons_ FK2 trivial))
             ·
              rintro fr H ⟨rfl, rfl, -⟩
              refine At.next ?_
              refine At.toM [(0, _), (1, _), (7, _), (8, _), (9, _), (10, _), (12, _), (18, _), (19, _), (20, iV ((d.write x.i (x.B.l.take ((min x.B.l.length 70) - 0))).2))] [(0, _), (97, _), (100, _), (101, _), (102, _), (103, _), (1097, _)] [famG 100000 5 es, famR 100001 (L.map ActE.B)] (AllL.cons_ (rfl) (AllL.cons_ (rfl) (AllL.cons_ (rfl) (AllL.cons_ (rfl) (AllL.cons_ (rfl) (AllL.cons_ (rfl) (AllL.cons_ (rfl) (AllL.cons_ (rfl) (AllL.cons_ (rfl) (AllL.cons_ ((by rw [hz2, hdn]; rfl)) trivial)))))))))) (AllL.cons_ (rfl) (AllL.cons_ (rfl) (AllL.cons_ (rfl) (AllL.cons_ (rfl) (AllL.cons_ (rfl) (AllL.cons_ (rfl) (AllL.cons_ (rfl) trivial))))))) (AllL.cons_ FK2 (AllL.cons_ FK2 trivial)) ?_
              exact hKj5 _ _ ⟨(d.write x.i (x.B.l.take ((min x.B.l.length 70) - 0))).1, (d.write x.i (x.B.l.take ((min x.B.l.length 70) - 0))).2, es, rfl, rfl, (DM.write_ok hok (by omega)), (DM.write_n.trans hdn), (by have := DM.write_wr (d := d) (i := x.i) (l := (x.B.l.take ((min x.B.l.length 70) - 0))); omega), (by rw [hz1]; exact hs), hes⟩
           ·
            rintro fr H ⟨d1, e1, es1, rfl, rfl, hok1, hdn1, hwr1, hs1, hes1⟩
            refine At.seq ?_
            refine At.seq ?_
            refine At.region ?_
            refine At.p (some 174) (P_move rfl rfl) ?_
            refine At.p (some 175) (P_move rfl rfl) ?_
            refine At.p (some 176) (P_cmp rfl rfl rfl rfl rfl rfl) ?_
            refine At.p (some 177) (P_move rfl rfl) ?_
            refine At.gy (t := 177) rfl (by simp) rfl rfl ?_
            refine At.p (some 178) (P_move rfl rfl) ?_
            refine At.gy (t := 177) rfl (by simp) rfl rfl ?_
            refine At.p (some 179) (P_move rfl rfl) ?_
            refine At.gy (t := 177) rfl (by simp) rfl rfl ?_
            refine At.p (some 180) (P_cmp rfl rfl rfl rfl rfl rfl) ?_
            refine At.p (some 181) (P_pick_f rfl rfl (by simp) rfl) ?_
            refine At.p (some 182) (P_move rfl rfl) ?_
            refine At.gy (t := 182) rfl (by simp) rfl rfl ?_
            refine At.p (some 183) (P_move rfl rfl) ?_
            refine At.gy (t := 182) rfl (by simp) rfl rfl ?_
            refine At.s (S_callV (some 184) [(97, _)] [] (vs := [_]) rfl en17 rfl (VN (by simp) rfl View.all V0) (by simp) (c_On d1 bc97 bcs97 cc97) (by rintro _ _ ⟨rfl, rfl⟩; rfl) ?_)
            rintro _ _ ⟨rfl, rfl⟩
            refine At.gy (t := 182) rfl (by simp) rfl rfl ?_
            refine At.p (some 185) (P_move rfl rfl) ?_
            refine At.gy (t := 182) rfl (by simp) rfl rfl ?_
            refine At.s (S_callV (some 186) [(100, _)] [] (vs := [_]) rfl en17 rfl (VN (by simp) rfl View.all V0) (by simp) (c_On d1 b0 b1 n) (by rintro _ _ ⟨rfl, rfl⟩; rfl) ?_)
            rintro _ _ ⟨rfl, rfl⟩
            refine At.gy (t := 182) rfl (by simp) rfl rfl ?_
            refine At.p (some 187) (P_neq_bool rfl Try.underlying4 rfl rfl) ?_
            refine At.p (some 188) (P_pick_f rfl rfl (by simp) rfl) ?_
            refine At.nil ?_
            refine At.next ?_
            refine At.cond rfl (fun h188 => by simp at h188) (fun h188 => ?_)
            refine At.skip ?_
            refine At.next ?_
            refine At.seq ?_
            refine At.region ?_
            refine At.p (some 189) (P_move rfl rfl) ?_
            refine At.s (S_callR (some 190) [(97, _), (1097, _)] [] [97, 1097] (vs := [_]) rfl en12 rfl (ON rfl rfl (ON rfl rfl O0)) (by simp) V0 (by simp) (c_Up d1 bc97 bcs97 cc97 ((cc97 - d.n) * 64) ) (by rintro _ _ ⟨rfl, rfl⟩; rfl) ?_)
            rintro _ _ ⟨rfl, rfl⟩
            refine At.nil ?_
            refine At.next ?_
            refine At.region ?_
            refine At.p (some 191) (P_move rfl rfl) ?_
            refine At.s (S_makeN (some 192) 192 (n := 64) (cs := ((List.replicate 64 0#8)).map u8V) rfl Try.underlying27 sz5 by5 ze5 rfl rfl (by omega) (by omega) (by omega) (by omega) ((made_one (n := 64) (by omega)).trans (by rw [List.map_replicate]; rfl)) (fun b192 => ?_))
            refine At.s (S_callR (some 193) [(97, _), (1097, _)] [(192, _)] [97, 1097] (vs := [_, _, _]) rfl en11 rfl (ON rfl rfl (ON rfl rfl O0)) (by simp) (VN (by simp) rfl View.all V0) (by simp) (c_WriteN d1.up (DM.up_ok hok1) bc97 bcs97 cc97 ((cc97 - d.n) * 64) (by first | omega | exact (show d1.n ≤ cc97 by omega)) (i := 0) (A := (some ⟨b192, 0, none⟩)) (ca := 64) (bq := b192) (q := 0) (l := (List.replicate 64 0#8)) (nl := 64) LN (fun _ => rfl)) (by rintro _ _ ⟨rfl, rfl⟩; rfl) ?_)
            rintro _ _ ⟨rfl, rfl⟩
            refine At.nil ?_
            refine At.inb_n ?_
            refine At.next ?_
            refine At.toM [(0, _), (1, _), (7, _), (8, _), (9, _), (10, _)] [(0, _), (100, _), (101, _), (102, _), (103, _)] [famG 100000 5 es1, famR 100001 (L.map ActE.B)] (AllL.cons_ (rfl) (AllL.cons_ (rfl) (AllL.cons_ (rfl) (AllL.cons_ (rfl) (AllL.cons_ (rfl) (AllL.cons_ (rfl) trivial)))))) (AllL.cons_ (rfl) (AllL.cons_ (rfl) (AllL.cons_ (rfl) (AllL.cons_ (rfl) (AllL.cons_ (rfl) trivial))))) (AllL.cons_ FK2 (AllL.cons_ FK2 trivial)) ?_
            exact hKj1 _ _ ⟨d1, es1, rfl, rfl, hok1, hdn1, hwr1, hs1, hes1⟩
          · -- cond 151 f
           have e151 : (x.n.tmod 13) ≠ 12 := beq_eq_false_iff_ne.1 h151
           refine At.skip ?_
           refine At.next ?_
           refine At.seqJ (fun fr H => ∃ (d1 : DM) (e1 : Int) (es1 : List BG), fr = frOf [(0, iV (n : Int)), (1, .slice A nr c), (7, ptr b0 0), (8, iV 0), (9, ptr bw 0), (10, iV (k : Int)), (12, ptr bc97 0), (18, iV e1), (19, iV e1), (20, iV e1)] ∧ H = famsOf (hOf [(0, ⟨false, b, q, 0, encs ActN L, 0⟩), (97, (DM.row d1 true bc97 bcs97 cc97)), (100, (DM.row d1 true b0 b1 n)), (101, (rowS true b1 d1.S 0)), (102, ⟨true, bw, 0, 46, [.slice Aw n cw, .bool d1.off, iV d1.till, iV (d1.torn : Int), iV d1.wr], 0⟩), (103, ⟨true, bS, 0, 27, (es1).map BG.v, cw - n⟩), (1097, (rowS true bcs97 d1.S ((cc97 - d.n) * 64)))]) [famG 100000 5 es1, famR 100001 (L.map ActE.B)] ∧ (d1.Ok) ∧ (d1.n = n) ∧ (d1.wr ≤ k + 1) ∧ (SecOk d1 es1) ∧ (∀ e ∈ es1, e.ok)) ?_ ?_
           ·
            intro Kj6 hKj6
            rcases Classical.em (mayE d.off d.n x.i = 0 ∧ ((x.B.l.take ((min x.B.l.length 64) - 0)) ++ List.replicate (max (64 - x.B.l.length) 0) 0#8).length = 64) with hc | hc
            · -- case 0
             obtain ⟨hc1, hc2⟩ := hc
             obtain ⟨hoff, hi0, hin⟩ := mayE_0 hc1
             have hll : ((x.B.l.take ((min x.B.l.length 64) - 0)) ++ List.replicate (max (64 - x.B.l.length) 0) 0#8).length = 64 := by have h9 : ((x.B.l.take ((min x.B.l.length 64) - 0)) ++ List.replicate (max (64 - x.B.l.length) 0) 0#8).length = ((x.B.l.take ((min x.B.l.length 64) - 0)) ++ List.replicate (max (64 - x.B.l.length) 0) 0#8).length := LN; omega
             obtain ⟨hz1, hz2, hz3, hz4, hz5, hz6, hz7, hz8⟩ := wr_yesI hok hc1 hll
             have hxo1 := hes _ (getDG_mem (es := es) (i := (x.i).toNat) (by omega))
             have hxl1 : (es.getD (x.i).toNat default).l.length = 64 := by rw [hs.2 _ (by omega)]; exact sec_len hok (by omega)
             refine At.toM [(0, iV (n : Int)), (1, .slice A nr c), (7, ptr b0 0), (8, iV 0), (9, ptr bw 0), (10, iV (k : Int)), (11, ptr b11 0), (12, ptr bc97 0), (17, .slice A147 (((x.B.l.take ((min x.B.l.length 64) - 0)) ++ List.replicate (max (64 - x.B.l.length) 0) 0#8).length) c147)] [(0, ⟨false, b, q, 0, encs ActN L, 0⟩), (11, ⟨true, b11, 0, 40, [iV x.w, iV x.i, iV x.n, .slice x.B.A x.B.l.length x.B.c], 0⟩), (97, (DM.row d true bc97 bcs97 cc97)), (100, (DM.row d true b0 b1 n)), (101, (rowS true b1 d.S 0)), (102, ⟨true, bw, 0, 46, [.slice Aw n cw, .bool d.off, iV d.till, iV (d.torn : Int), iV d.wr], 0⟩), (103, ⟨true, bS, 0, 27, (es).map BG.v, cw - n⟩), (133, ⟨true, b147, 0, 5, (((x.B.l.take ((min x.B.l.length 64) - 0)) ++ List.replicate (max (64 - x.B.l.length) 0) 0#8)).map u8V, c147 - (((x.B.l.take ((min x.B.l.length 64) - 0)) ++ List.replicate (max (64 - x.B.l.length) 0) 0#8)).length⟩), (400, pRow x.B.b x.B.q x.B.l), (1097, (rowS true bcs97 d.S ((cc97 - d.n) * 64)))] [famG 100000 5 es, famR 100001 (L.map ActE.B)] (AllL.cons_ rfl (AllL.cons_ rfl (AllL.cons_ rfl (AllL.cons_ rfl (AllL.cons_ rfl (AllL.cons_ rfl (AllL.cons_ rfl (AllL.cons_ rfl (AllL.cons_ rfl trivial))))))))) (AllL.cons_ rfl (AllL.cons_ rfl (AllL.cons_ rfl (AllL.cons_ rfl (AllL.cons_ rfl (AllL.cons_ rfl (AllL.cons_ rfl (AllL.cons_ rfl (AllL.cons_ rfl (AllL.cons_ rfl trivial)))))))))) (AllL.cons_ FK2 (AllL.cons_ FK2 trivial)) ?_
             refine At.famOutG 401 (i := (x.i).toNat) (by omega) (AllL.cons_ rfl (AllL.cons_ rfl (AllL.cons_ rfl (AllL.cons_ rfl (AllL.cons_ rfl (AllL.cons_ rfl (AllL.cons_ rfl (AllL.cons_ rfl (AllL.cons_ rfl (AllL.cons_ rfl trivial)))))))))) rfl (AllL.cons_ rfl trivial) ?_
             refine At.bBruteG [4, 9, 14] (fun fr H => ∃ (y : BG), fr = frOf [(0, iV (n : Int)), (1, .slice A nr c), (7, ptr b0 0), (8, iV 0), (9, ptr bw 0), (10, iV (k : Int)), (12, ptr bc97 0), (18, iV ((d.write x.i ((x.B.l.take ((min x.B.l.length 64) - 0)) ++ List.replicate (max (64 - x.B.l.length) 0) 0#8)).2)), (19, iV ((d.write x.i ((x.B.l.take ((min x.B.l.length 64) - 0)) ++ List.replicate (max (64 - x.B.l.length) 0) 0#8)).2)), (20, iV (wrE d.till))] ∧ H = famsOf (hOf [(0, ⟨false, b, q, 0, encs ActN L, 0⟩), (97, (DM.row ((d.write x.i ((x.B.l.take ((min x.B.l.length 64) - 0)) ++ List.replicate (max (64 - x.B.l.length) 0) 0#8)).1) true bc97 bcs97 cc97)), (100, (DM.row ((d.write x.i ((x.B.l.take ((min x.B.l.length 64) - 0)) ++ List.replicate (max (64 - x.B.l.length) 0) 0#8)).1) true b0 b1 n)), (101, (rowS true b1 ((d.write x.i ((x.B.l.take ((min x.B.l.length 64) - 0)) ++ List.replicate (max (64 - x.B.l.length) 0) 0#8)).1).S 0)), (102, ⟨true, bw, 0, 46, [.slice Aw n cw, .bool (((d.write x.i ((x.B.l.take ((min x.B.l.length 64) - 0)) ++ List.replicate (max (64 - x.B.l.length) 0) 0#8)).1).off), iV (((d.write x.i ((x.B.l.take ((min x.B.l.length 64) - 0)) ++ List.replicate (max (64 - x.B.l.length) 0) 0#8)).1).till), iV (((d.write x.i ((x.B.l.take ((min x.B.l.length 64) - 0)) ++ List.replicate (max (64 - x.B.l.length) 0) 0#8)).1).torn : Int), iV (((d.write x.i ((x.B.l.take ((min x.B.l.length 64) - 0)) ++ List.replicate (max (64 - x.B.l.length) 0) 0#8)).1).wr)], 0⟩), (103, ⟨true, bS, 0, 27, ((es.set (x.i).toNat y)).map BG.v, cw - n⟩), (401, ⟨true, (es.getD ((x.i).toNat) default).b, 0, 5, ((es.getD ((x.i).toNat) default).w).map u8V, (es.getD ((x.i).toNat) default).c + (es.getD ((x.i).toNat) default).q - (es.getD ((x.i).toNat) default).w.length⟩), (402, ⟨true, y.b, 0, 5, (y.w).map u8V, y.c + y.q - y.w.length⟩), (1097, (rowS true bcs97 ((d.write x.i ((x.B.l.take ((min x.B.l.length 64) - 0)) ++ List.replicate (max (64 - x.B.l.length) 0) 0#8)).1).S ((cc97 - d.n) * 64)))]) [famGut 100000 5 es ((x.i).toNat), famR 100001 (L.map ActE.B)] ∧ (y.ok) ∧ (y.l = wrL d.till d.torn ((x.B.l.take ((min x.B.l.length 64) - 0)) ++ List.replicate (max (64 - x.B.l.length) 0) 0#8) (es.getD (x.i).toNat default).l) ∧ True) (by kernel_rfl) ?_ ?_
             ·
              intro Kb hKb G hGi hGo
              have hG27_0 (y : BG) (hyo : y.ok) (hyl : y.l = wrL d.till d.torn ((x.B.l.take ((min x.B.l.length 64) - 0)) ++ List.replicate (max (64 - x.B.l.length) 0) 0#8) (es.getD (x.i).toNat default).l) : G 0 #[true, true, true, true, true, true, true, true, true, true, true, true, true, true, true, true, true, true] (frOf [(0, iV (n : Int)), (1, .slice A nr c), (7, ptr b0 0), (8, iV 0), (9, ptr bw 0), (10, iV (k : Int)), (12, ptr bc97 0), (18, iV ((d.write x.i ((x.B.l.take ((min x.B.l.length 64) - 0)) ++ List.replicate (max (64 - x.B.l.length) 0) 0#8)).2)), (19, iV ((d.write x.i ((x.B.l.take ((min x.B.l.length 64) - 0)) ++ List.replicate (max (64 - x.B.l.length) 0) 0#8)).2)), (20, iV (wrE d.till))]) (famsOf (hOf [(0, ⟨false, b, q, 0, encs ActN L, 0⟩), (97, (DM.row ((d.write x.i ((x.B.l.take ((min x.B.l.length 64) - 0)) ++ List.replicate (max (64 - x.B.l.length) 0) 0#8)).1) true bc97 bcs97 cc97)), (100, (DM.row ((d.write x.i ((x.B.l.take ((min x.B.l.length 64) - 0)) ++ List.replicate (max (64 - x.B.l.length) 0) 0#8)).1) true b0 b1 n)), (101, (rowS true b1 ((d.write x.i ((x.B.l.take ((min x.B.l.length 64) - 0)) ++ List.replicate (max (64 - x.B.l.length) 0) 0#8)).1).S 0)), (102, ⟨true, bw, 0, 46, [.slice Aw n cw, .bool (((d.write x.i ((x.B.l.take ((min x.B.l.length 64) - 0)) ++ List.replicate (max (64 - x.B.l.length) 0) 0#8)).1).off), iV (((d.write x.i ((x.B.l.take ((min x.B.l.length 64) - 0)) ++ List.replicate (max (64 - x.B.l.length) 0) 0#8)).1).till), iV (((d.write x.i ((x.B.l.take ((min x.B.l.length 64) - 0)) ++ List.replicate (max (64 - x.B.l.length) 0) 0#8)).1).torn : Int), iV (((d.write x.i ((x.B.l.take ((min x.B.l.length 64) - 0)) ++ List.replicate (max (64 - x.B.l.length) 0) 0#8)).1).wr)], 0⟩), (103, ⟨true, bS, 0, 27, ((es.set (x.i).toNat y)).map BG.v, cw - n⟩), (401, ⟨true, (es.getD ((x.i).toNat) default).b, 0, 5, ((es.getD ((x.i).toNat) default).w).map u8V, (es.getD ((x.i).toNat) default).c + (es.getD ((x.i).toNat) default).q - (es.getD ((x.i).toNat) default).w.length⟩), (402, ⟨true, y.b, 0, 5, (y.w).map u8V, y.c + y.q - y.w.length⟩), (1097, (rowS true bcs97 ((d.write x.i ((x.B.l.take ((min x.B.l.length 64) - 0)) ++ List.replicate (max (64 - x.B.l.length) 0) 0#8)).1).S ((cc97 - d.n) * 64)))]) [famGut 100000 5 es ((x.i).toNat), famR 100001 (L.map ActE.B)]) := by
               refine hGo ?_
               refine At.bEnd (by kernel_rfl) ?_
               refine At.next ?_
               exact hKb _ _ ⟨y, rfl, rfl, hyo, hyl, trivial⟩
              have hG27_1  : G 4 #[true, true, true, true, true, true, true, true, true, true, true, true, true, true, false, false, false, false] (frOf [(0, iV (n : Int)), (1, .slice A nr c), (7, ptr b0 0), (8, iV 0), (9, ptr bw 0), (10, iV (k : Int)), (12, ptr bc97 0), (163, iV ((d.write x.i ((x.B.l.take ((min x.B.l.length 64) - 0)) ++ List.replicate (max (64 - x.B.l.length) 0) 0#8)).2)), (168, iV ((d.write x.i ((x.B.l.take ((min x.B.l.length 64) - 0)) ++ List.replicate (max (64 - x.B.l.length) 0) 0#8)).2)), (169, ptr bw 0), (171, iV x.i), (172, .slice A147 (((x.B.l.take ((min x.B.l.length 64) - 0)) ++ List.replicate (max (64 - x.B.l.length) 0) 0#8).length) c147)]) (famsOf (hOf [(0, ⟨false, b, q, 0, encs ActN L, 0⟩), (97, (DM.row ((d.write x.i ((x.B.l.take ((min x.B.l.length 64) - 0)) ++ List.replicate (max (64 - x.B.l.length) 0) 0#8)).1) true bc97 bcs97 cc97)), (100, (DM.row ((d.write x.i ((x.B.l.take ((min x.B.l.length 64) - 0)) ++ List.replicate (max (64 - x.B.l.length) 0) 0#8)).1) true b0 b1 n)), (101, (rowS true b1 ((d.write x.i ((x.B.l.take ((min x.B.l.length 64) - 0)) ++ List.replicate (max (64 - x.B.l.length) 0) 0#8)).1).S 0)), (102, ⟨true, bw, 0, 46, [.slice Aw n cw, .bool d.off, iV d.till, iV (d.torn : Int), iV d.wr], 0⟩), (103, ⟨true, bS, 0, 27, (es).map BG.v, cw - n⟩), (133, ⟨true, b147, 0, 5, (((x.B.l.take ((min x.B.l.length 64) - 0)) ++ List.replicate (max (64 - x.B.l.length) 0) 0#8)).map u8V, c147 - (((x.B.l.take ((min x.B.l.length 64) - 0)) ++ List.replicate (max (64 - x.B.l.length) 0) 0#8)).length⟩), (401, ⟨true, (es.getD ((x.i).toNat) default).b, 0, 5, ((es.getD ((x.i).toNat) default).w).map u8V, (es.getD ((x.i).toNat) default).c + (es.getD ((x.i).toNat) default).q - (es.getD ((x.i).toNat) default).w.length⟩), (1097, (rowS true bcs97 ((d.write x.i ((x.B.l.take ((min x.B.l.length 64) - 0)) ++ List.replicate (max (64 - x.B.l.length) 0) 0#8)).1).S ((cc97 - d.n) * 64)))]) [famGut 100000 5 es ((x.i).toNat), famR 100001 (L.map ActE.B)]) := by
               refine hGo ?_
               refine At.bStep [14] (by kernel_rfl) (by simp) ?_
               refine At.bS true (by kernel_rfl) (S_callR (some 173) [(102, _), (103, _)] [(401, _), (133, _)] [102, 103, 402] (vs := [_, _, _]) rfl en22 rfl (ON rfl rfl (ON rfl rfl O0)) (by simp) (VN (by simp) rfl (BG.see hxo1) (VN (by simp) rfl View.all V0)) (by simp) (r_WriteY (bw := bw) (bS := bS) (cw := cw) (torn := d.torn) (m := n) (off := d.off) (till := d.till) (wr := d.wr) (es := es) (Aw := Aw) (i := x.i) (k := (x.i).toNat) (l := ((x.B.l.take ((min x.B.l.length 64) - 0)) ++ List.replicate (max (64 - x.B.l.length) 0) 0#8)) (A := A147) (nl := (((x.B.l.take ((min x.B.l.length 64) - 0)) ++ List.replicate (max (64 - x.B.l.length) 0) 0#8).length)) (c := c147) (b := b147) (q := 0) hAw hcw (by first | assumption | omega) (by omega) LN (fun h => g147a (by omega)) (by omega) (by omega) hoff (by omega) hc2 hes hxo1 hxl1 (by omega) (by omega) (by omega) (by omega) (by omega)) (by rintro _ _ ⟨y, hyo, hyl, rfl, rfl⟩; rfl) ?_)
               rintro _ _ ⟨y, hyo, hyl, rfl, rfl⟩
               refine At.row 102 (⟨true, bw, 0, 46, [.slice Aw n cw, .bool (((d.write x.i ((x.B.l.take ((min x.B.l.length 64) - 0)) ++ List.replicate (max (64 - x.B.l.length) 0) 0#8)).1).off), iV (((d.write x.i ((x.B.l.take ((min x.B.l.length 64) - 0)) ++ List.replicate (max (64 - x.B.l.length) 0) 0#8)).1).till), iV (((d.write x.i ((x.B.l.take ((min x.B.l.length 64) - 0)) ++ List.replicate (max (64 - x.B.l.length) 0) 0#8)).1).torn : Int), iV (((d.write x.i ((x.B.l.take ((min x.B.l.length 64) - 0)) ++ List.replicate (max (64 - x.B.l.length) 0) 0#8)).1).wr)], 0⟩) rfl (by rw [hz3, hz4, hz5, hz6]) ?_
               refine At.bP  15 (some 18) (P_assign rfl rfl) (by kernel_rfl) (by kernel_rfl) ?_
               refine At.bP  16 (some 19) (P_assign rfl rfl) (by kernel_rfl) (by kernel_rfl) ?_
               refine At.bP  17 (some 20) (P_assign rfl rfl) (by kernel_rfl) (by kernel_rfl) ?_
               exact At.intoF (hGi (hG27_0 y hyo hyl)) rfl rfl (AllL.cons_ FK2 (AllL.cons_ FK2 trivial))
              have hG27_2  : G 5 #[true, true, true, true, true, true, true, true, true, false, true, true, true, true, false, false, false, false] (frOf [(0, iV (n : Int)), (1, .slice A nr c), (7, ptr b0 0), (8, iV 0), (9, ptr bw 0), (10, iV (k : Int)), (12, ptr bc97 0), (163, iV ((d.write x.i ((x.B.l.take ((min x.B.l.length 64) - 0)) ++ List.replicate (max (64 - x.B.l.length) 0) 0#8)).2)), (164, ptr b0 0), (166, iV x.i), (167, .slice A147 (((x.B.l.take ((min x.B.l.length 64) - 0)) ++ List.replicate (max (64 - x.B.l.length) 0) 0#8).length) c147), (169, ptr bw 0), (171, iV x.i), (172, .slice A147 (((x.B.l.take ((min x.B.l.length 64) - 0)) ++ List.replicate (max (64 - x.B.l.length) 0) 0#8).length) c147)]) (famsOf (hOf [(0, ⟨false, b, q, 0, encs ActN L, 0⟩), (97, (DM.row ((d.write x.i ((x.B.l.take ((min x.B.l.length 64) - 0)) ++ List.replicate (max (64 - x.B.l.length) 0) 0#8)).1) true bc97 bcs97 cc97)), (100, (DM.row d true b0 b1 n)), (101, (rowS true b1 d.S 0)), (102, ⟨true, bw, 0, 46, [.slice Aw n cw, .bool d.off, iV d.till, iV (d.torn : Int), iV d.wr], 0⟩), (103, ⟨true, bS, 0, 27, (es).map BG.v, cw - n⟩), (133, ⟨true, b147, 0, 5, (((x.B.l.take ((min x.B.l.length 64) - 0)) ++ List.replicate (max (64 - x.B.l.length) 0) 0#8)).map u8V, c147 - (((x.B.l.take ((min x.B.l.length 64) - 0)) ++ List.replicate (max (64 - x.B.l.length) 0) 0#8)).length⟩), (401, ⟨true, (es.getD ((x.i).toNat) default).b, 0, 5, ((es.getD ((x.i).toNat) default).w).map u8V, (es.getD ((x.i).toNat) default).c + (es.getD ((x.i).toNat) default).q - (es.getD ((x.i).toNat) default).w.length⟩), (1097, (rowS true bcs97 ((d.write x.i ((x.B.l.take ((min x.B.l.length 64) - 0)) ++ List.replicate (max (64 - x.B.l.length) 0) 0#8)).1).S ((cc97 - d.n) * 64)))]) [famGut 100000 5 es ((x.i).toNat), famR 100001 (L.map ActE.B)]) := by
               clear hG27_0
               refine hGo ?_
               refine At.bStep [9] (by kernel_rfl) (by simp) ?_
               refine At.bS true (by kernel_rfl) (S_callR (some 168) [(100, _), (101, _)] [(133, _)] [100, 101] (vs := [_, _, _]) rfl en11 rfl (ON rfl rfl (ON rfl rfl O0)) (by simp) (VN (by simp) rfl View.all V0) (by simp) (c_WriteN d hok b0 b1 n 0 (by first | omega | exact (show d.n ≤ n by omega)) (i := x.i) (A := A147) (ca := c147) (bq := b147) (q := 0) (l := ((x.B.l.take ((min x.B.l.length 64) - 0)) ++ List.replicate (max (64 - x.B.l.length) 0) 0#8)) (nl := (((x.B.l.take ((min x.B.l.length 64) - 0)) ++ List.replicate (max (64 - x.B.l.length) 0) 0#8).length)) LN (fun h => g147a (by omega))) (by rintro _ _ ⟨rfl, rfl⟩; rfl) ?_)
               rintro _ _ ⟨rfl, rfl⟩
               exact At.intoF (hGi (hG27_1 )) rfl rfl (AllL.cons_ FK2 (AllL.cons_ FK2 trivial))
              have hG27_3  : G 6 #[true, true, true, true, true, true, true, true, true, false, true, true, false, true, false, false, false, false] (frOf [(0, iV (n : Int)), (1, .slice A nr c), (7, ptr b0 0), (8, iV 0), (9, ptr bw 0), (10, iV (k : Int)), (12, ptr bc97 0), (163, iV ((d.write x.i ((x.B.l.take ((min x.B.l.length 64) - 0)) ++ List.replicate (max (64 - x.B.l.length) 0) 0#8)).2)), (164, ptr b0 0), (166, iV x.i), (167, .slice A147 (((x.B.l.take ((min x.B.l.length 64) - 0)) ++ List.replicate (max (64 - x.B.l.length) 0) 0#8).length) c147), (169, ptr bw 0), (170, ptr b11 1), (172, .slice A147 (((x.B.l.take ((min x.B.l.length 64) - 0)) ++ List.replicate (max (64 - x.B.l.length) 0) 0#8).length) c147)]) (famsOf (hOf [(0, ⟨false, b, q, 0, encs ActN L, 0⟩), (11, ⟨true, b11, 0, 40, [iV x.w, iV x.i, iV x.n, .slice x.B.A x.B.l.length x.B.c], 0⟩), (97, (DM.row ((d.write x.i ((x.B.l.take ((min x.B.l.length 64) - 0)) ++ List.replicate (max (64 - x.B.l.length) 0) 0#8)).1) true bc97 bcs97 cc97)), (100, (DM.row d true b0 b1 n)), (101, (rowS true b1 d.S 0)), (102, ⟨true, bw, 0, 46, [.slice Aw n cw, .bool d.off, iV d.till, iV (d.torn : Int), iV d.wr], 0⟩), (103, ⟨true, bS, 0, 27, (es).map BG.v, cw - n⟩), (133, ⟨true, b147, 0, 5, (((x.B.l.take ((min x.B.l.length 64) - 0)) ++ List.replicate (max (64 - x.B.l.length) 0) 0#8)).map u8V, c147 - (((x.B.l.take ((min x.B.l.length 64) - 0)) ++ List.replicate (max (64 - x.B.l.length) 0) 0#8)).length⟩), (400, pRow x.B.b x.B.q x.B.l), (401, ⟨true, (es.getD ((x.i).toNat) default).b, 0, 5, ((es.getD ((x.i).toNat) default).w).map u8V, (es.getD ((x.i).toNat) default).c + (es.getD ((x.i).toNat) default).q - (es.getD ((x.i).toNat) default).w.length⟩), (1097, (rowS true bcs97 ((d.write x.i ((x.B.l.take ((min x.B.l.length 64) - 0)) ++ List.replicate (max (64 - x.B.l.length) 0) 0#8)).1).S ((cc97 - d.n) * 64)))]) [famGut 100000 5 es ((x.i).toNat), famR 100001 (L.map ActE.B)]) := by
               clear hG27_0
               refine hGo ?_
               refine At.bStep [9, 12] (by kernel_rfl) (by simp) ?_
               refine ⟨?_, ?_⟩
               ·
                refine At.bS true (by kernel_rfl) (S_callR (some 168) [(100, _), (101, _)] [(133, _)] [100, 101] (vs := [_, _, _]) rfl en11 rfl (ON rfl rfl (ON rfl rfl O0)) (by simp) (VN (by simp) rfl View.all V0) (by simp) (c_WriteN d hok b0 b1 n 0 (by first | omega | exact (show d.n ≤ n by omega)) (i := x.i) (A := A147) (ca := c147) (bq := b147) (q := 0) (l := ((x.B.l.take ((min x.B.l.length 64) - 0)) ++ List.replicate (max (64 - x.B.l.length) 0) 0#8)) (nl := (((x.B.l.take ((min x.B.l.length 64) - 0)) ++ List.replicate (max (64 - x.B.l.length) 0) 0#8).length)) LN (fun h => g147a (by omega))) (by rintro _ _ ⟨rfl, rfl⟩; rfl) ?_)
                rintro _ _ ⟨rfl, rfl⟩
                refine At.bQ  12 (some 171) (Q_loadO (k := 11) rfl rfl Try.underlying3 rfl rfl rfl) (by kernel_rfl) (by kernel_rfl) ?_
                exact At.intoF (hGi (hG27_1 )) rfl rfl (AllL.cons_ FK2 (AllL.cons_ FK2 trivial))
               ·
                refine At.bSQ (some 171) (Q_loadO (k := 11) rfl rfl Try.underlying3 rfl rfl rfl) ?_
                exact At.intoF (hGi (hG27_2 )) rfl rfl (AllL.cons_ FK2 (AllL.cons_ FK2 trivial))
              have hG27_4  : G 6 #[true, true, true, true, true, true, true, false, true, false, true, true, true, true, false, false, false, false] (frOf [(0, iV (n : Int)), (1, .slice A nr c), (7, ptr b0 0), (8, iV 0), (9, ptr bw 0), (10, iV (k : Int)), (12, ptr bc97 0), (163, iV ((d.write x.i ((x.B.l.take ((min x.B.l.length 64) - 0)) ++ List.replicate (max (64 - x.B.l.length) 0) 0#8)).2)), (164, ptr b0 0), (165, ptr b11 1), (167, .slice A147 (((x.B.l.take ((min x.B.l.length 64) - 0)) ++ List.replicate (max (64 - x.B.l.length) 0) 0#8).length) c147), (169, ptr bw 0), (171, iV x.i), (172, .slice A147 (((x.B.l.take ((min x.B.l.length 64) - 0)) ++ List.replicate (max (64 - x.B.l.length) 0) 0#8).length) c147)]) (famsOf (hOf [(0, ⟨false, b, q, 0, encs ActN L, 0⟩), (11, ⟨true, b11, 0, 40, [iV x.w, iV x.i, iV x.n, .slice x.B.A x.B.l.length x.B.c], 0⟩), (97, (DM.row ((d.write x.i ((x.B.l.take ((min x.B.l.length 64) - 0)) ++ List.replicate (max (64 - x.B.l.length) 0) 0#8)).1) true bc97 bcs97 cc97)), (100, (DM.row d true b0 b1 n)), (101, (rowS true b1 d.S 0)), (102, ⟨true, bw, 0, 46, [.slice Aw n cw, .bool d.off, iV d.till, iV (d.torn : Int), iV d.wr], 0⟩), (103, ⟨true, bS, 0, 27, (es).map BG.v, cw - n⟩), (133, ⟨true, b147, 0, 5, (((x.B.l.take ((min x.B.l.length 64) - 0)) ++ List.replicate (max (64 - x.B.l.length) 0) 0#8)).map u8V, c147 - (((x.B.l.take ((min x.B.l.length 64) - 0)) ++ List.replicate (max (64 - x.B.l.length) 0) 0#8)).length⟩), (400, pRow x.B.b x.B.q x.B.l), (401, ⟨true, (es.getD ((x.i).toNat) default).b, 0, 5, ((es.getD ((x.i).toNat) default).w).map u8V, (es.getD ((x.i).toNat) default).c + (es.getD ((x.i).toNat) default).q - (es.getD ((x.i).toNat) default).w.length⟩), (1097, (rowS true bcs97 ((d.write x.i ((x.B.l.take ((min x.B.l.length 64) - 0)) ++ List.replicate (max (64 - x.B.l.length) 0) 0#8)).1).S ((cc97 - d.n) * 64)))]) [famGut 100000 5 es ((x.i).toNat), famR 100001 (L.map ActE.B)]) := by
               clear hG27_0 hG27_1 hG27_3
               refine hGo ?_
               refine At.bStep [7] (by kernel_rfl) (by simp) ?_
               refine At.bSQ (some 166) (Q_loadO (k := 11) rfl rfl Try.underlying3 rfl rfl rfl) ?_
               exact At.intoF (hGi (hG27_2 )) rfl rfl (AllL.cons_ FK2 (AllL.cons_ FK2 trivial))
              have hG27_5  : G 6 #[true, true, true, true, false, true, true, true, true, false, true, true, true, true, false, false, false, false] (frOf [(0, iV (n : Int)), (1, .slice A nr c), (7, ptr b0 0), (8, iV 0), (9, ptr bw 0), (10, iV (k : Int)), (12, ptr bc97 0), (159, ptr bc97 0), (161, iV x.i), (162, .slice A147 (((x.B.l.take ((min x.B.l.length 64) - 0)) ++ List.replicate (max (64 - x.B.l.length) 0) 0#8).length) c147), (164, ptr b0 0), (166, iV x.i), (167, .slice A147 (((x.B.l.take ((min x.B.l.length 64) - 0)) ++ List.replicate (max (64 - x.B.l.length) 0) 0#8).length) c147), (169, ptr bw 0), (171, iV x.i), (172, .slice A147 (((x.B.l.take ((min x.B.l.length 64) - 0)) ++ List.replicate (max (64 - x.B.l.length) 0) 0#8).length) c147)]) (famsOf (hOf [(0, ⟨false, b, q, 0, encs ActN L, 0⟩), (97, (DM.row d true bc97 bcs97 cc97)), (100, (DM.row d true b0 b1 n)), (101, (rowS true b1 d.S 0)), (102, ⟨true, bw, 0, 46, [.slice Aw n cw, .bool d.off, iV d.till, iV (d.torn : Int), iV d.wr], 0⟩), (103, ⟨true, bS, 0, 27, (es).map BG.v, cw - n⟩), (133, ⟨true, b147, 0, 5, (((x.B.l.take ((min x.B.l.length 64) - 0)) ++ List.replicate (max (64 - x.B.l.length) 0) 0#8)).map u8V, c147 - (((x.B.l.take ((min x.B.l.length 64) - 0)) ++ List.replicate (max (64 - x.B.l.length) 0) 0#8)).length⟩), (401, ⟨true, (es.getD ((x.i).toNat) default).b, 0, 5, ((es.getD ((x.i).toNat) default).w).map u8V, (es.getD ((x.i).toNat) default).c + (es.getD ((x.i).toNat) default).q - (es.getD ((x.i).toNat) default).w.length⟩), (1097, (rowS true bcs97 d.S ((cc97 - d.n) * 64)))]) [famGut 100000 5 es ((x.i).toNat), famR 100001 (L.map ActE.B)]) := by
               clear hG27_0 hG27_1 hG27_3 hG27_4
               refine hGo ?_
               refine At.bStep [4] (by kernel_rfl) (by simp) ?_
               refine At.bS true (by kernel_rfl) (S_callR (some 163) [(97, _), (1097, _)] [(133, _)] [97, 1097] (vs := [_, _, _]) rfl en11 rfl (ON rfl rfl (ON rfl rfl O0)) (by simp) (VN (by simp) rfl View.all V0) (by simp) (c_WriteN d hok bc97 bcs97 cc97 ((cc97 - d.n) * 64) (by first | omega | exact (show d.n ≤ cc97 by omega)) (i := x.i) (A := A147) (ca := c147) (bq := b147) (q := 0) (l := ((x.B.l.take ((min x.B.l.length 64) - 0)) ++ List.replicate (max (64 - x.B.l.length) 0) 0#8)) (nl := (((x.B.l.take ((min x.B.l.length 64) - 0)) ++ List.replicate (max (64 - x.B.l.length) 0) 0#8).length)) LN (fun h => g147a (by omega))) (by rintro _ _ ⟨rfl, rfl⟩; rfl) ?_)
               rintro _ _ ⟨rfl, rfl⟩
               exact At.intoF (hGi (hG27_2 )) rfl rfl (AllL.cons_ FK2 (AllL.cons_ FK2 trivial))
              have hG27_6  : G 7 #[true, true, true, true, true, true, true, false, true, false, true, true, false, true, false, false, false, false] (frOf [(0, iV (n : Int)), (1, .slice A nr c), (7, ptr b0 0), (8, iV 0), (9, ptr bw 0), (10, iV (k : Int)), (12, ptr bc97 0), (163, iV ((d.write x.i ((x.B.l.take ((min x.B.l.length 64) - 0)) ++ List.replicate (max (64 - x.B.l.length) 0) 0#8)).2)), (164, ptr b0 0), (165, ptr b11 1), (167, .slice A147 (((x.B.l.take ((min x.B.l.length 64) - 0)) ++ List.replicate (max (64 - x.B.l.length) 0) 0#8).length) c147), (169, ptr bw 0), (170, ptr b11 1), (172, .slice A147 (((x.B.l.take ((min x.B.l.length 64) - 0)) ++ List.replicate (max (64 - x.B.l.length) 0) 0#8).length) c147)]) (famsOf (hOf [(0, ⟨false, b, q, 0, encs ActN L, 0⟩), (11, ⟨true, b11, 0, 40, [iV x.w, iV x.i, iV x.n, .slice x.B.A x.B.l.length x.B.c], 0⟩), (97, (DM.row ((d.write x.i ((x.B.l.take ((min x.B.l.length 64) - 0)) ++ List.replicate (max (64 - x.B.l.length) 0) 0#8)).1) true bc97 bcs97 cc97)), (100, (DM.row d true b0 b1 n)), (101, (rowS true b1 d.S 0)), (102, ⟨true, bw, 0, 46, [.slice Aw n cw, .bool d.off, iV d.till, iV (d.torn : Int), iV d.wr], 0⟩), (103, ⟨true, bS, 0, 27, (es).map BG.v, cw - n⟩), (133, ⟨true, b147, 0, 5, (((x.B.l.take ((min x.B.l.length 64) - 0)) ++ List.replicate (max (64 - x.B.l.length) 0) 0#8)).map u8V, c147 - (((x.B.l.take ((min x.B.l.length 64) - 0)) ++ List.replicate (max (64 - x.B.l.length) 0) 0#8)).length⟩), (400, pRow x.B.b x.B.q x.B.l), (401, ⟨true, (es.getD ((x.i).toNat) default).b, 0, 5, ((es.getD ((x.i).toNat) default).w).map u8V, (es.getD ((x.i).toNat) default).c + (es.getD ((x.i).toNat) default).q - (es.getD ((x.i).toNat) default).w.length⟩), (1097, (rowS true bcs97 ((d.write x.i ((x.B.l.take ((min x.B.l.length 64) - 0)) ++ List.replicate (max (64 - x.B.l.length) 0) 0#8)).1).S ((cc97 - d.n) * 64)))]) [famGut 100000 5 es ((x.i).toNat), famR 100001 (L.map ActE.B)]) := by
               clear hG27_0 hG27_1 hG27_2 hG27_5
               refine hGo ?_
               refine At.bStep [7, 12] (by kernel_rfl) (by simp) ?_
               refine ⟨?_, ?_⟩
               ·
                refine At.bSQ (some 166) (Q_loadO (k := 11) rfl rfl Try.underlying3 rfl rfl rfl) ?_
                exact At.intoF (hGi (hG27_3 )) rfl rfl (AllL.cons_ FK2 (AllL.cons_ FK2 trivial))
               ·
                refine At.bSQ (some 171) (Q_loadO (k := 11) rfl rfl Try.underlying3 rfl rfl rfl) ?_
                exact At.intoF (hGi (hG27_4 )) rfl rfl (AllL.cons_ FK2 (AllL.cons_ FK2 trivial))
              have hG27_7  : G 7 #[true, true, true, true, false, true, true, true, true, false, true, true, false, true, false, false, false, false] (frOf [(0, iV (n : Int)), (1, .slice A nr c), (7, ptr b0 0), (8, iV 0), (9, ptr bw 0), (10, iV (k : Int)), (12, ptr bc97 0), (159, ptr bc97 0), (161, iV x.i), (162, .slice A147 (((x.B.l.take ((min x.B.l.length 64) - 0)) ++ List.replicate (max (64 - x.B.l.length) 0) 0#8).length) c147), (164, ptr b0 0), (166, iV x.i), (167, .slice A147 (((x.B.l.take ((min x.B.l.length 64) - 0)) ++ List.replicate (max (64 - x.B.l.length) 0) 0#8).length) c147), (169, ptr bw 0), (170, ptr b11 1), (172, .slice A147 (((x.B.l.take ((min x.B.l.length 64) - 0)) ++ List.replicate (max (64 - x.B.l.length) 0) 0#8).length) c147)]) (famsOf (hOf [(0, ⟨false, b, q, 0, encs ActN L, 0⟩), (11, ⟨true, b11, 0, 40, [iV x.w, iV x.i, iV x.n, .slice x.B.A x.B.l.length x.B.c], 0⟩), (97, (DM.row d true bc97 bcs97 cc97)), (100, (DM.row d true b0 b1 n)), (101, (rowS true b1 d.S 0)), (102, ⟨true, bw, 0, 46, [.slice Aw n cw, .bool d.off, iV d.till, iV (d.torn : Int), iV d.wr], 0⟩), (103, ⟨true, bS, 0, 27, (es).map BG.v, cw - n⟩), (133, ⟨true, b147, 0, 5, (((x.B.l.take ((min x.B.l.length 64) - 0)) ++ List.replicate (max (64 - x.B.l.length) 0) 0#8)).map u8V, c147 - (((x.B.l.take ((min x.B.l.length 64) - 0)) ++ List.replicate (max (64 - x.B.l.length) 0) 0#8)).length⟩), (400, pRow x.B.b x.B.q x.B.l), (401, ⟨true, (es.getD ((x.i).toNat) default).b, 0, 5, ((es.getD ((x.i).toNat) default).w).map u8V, (es.getD ((x.i).toNat) default).c + (es.getD ((x.i).toNat) default).q - (es.getD ((x.i).toNat) default).w.length⟩), (1097, (rowS true bcs97 d.S ((cc97 - d.n) * 64)))]) [famGut 100000 5 es ((x.i).toNat), famR 100001 (L.map ActE.B)]) := by
               clear hG27_0 hG27_1 hG27_2 hG27_4 hG27_6
               refine hGo ?_
               refine At.bStep [4, 12] (by kernel_rfl) (by simp) ?_
               refine ⟨?_, ?_⟩
               ·
                refine At.bS true (by kernel_rfl) (S_callR (some 163) [(97, _), (1097, _)] [(133, _)] [97, 1097] (vs := [_, _, _]) rfl en11 rfl (ON rfl rfl (ON rfl rfl O0)) (by simp) (VN (by simp) rfl View.all V0) (by simp) (c_WriteN d hok bc97 bcs97 cc97 ((cc97 - d.n) * 64) (by first | omega | exact (show d.n ≤ cc97 by omega)) (i := x.i) (A := A147) (ca := c147) (bq := b147) (q := 0) (l := ((x.B.l.take ((min x.B.l.length 64) - 0)) ++ List.replicate (max (64 - x.B.l.length) 0) 0#8)) (nl := (((x.B.l.take ((min x.B.l.length 64) - 0)) ++ List.replicate (max (64 - x.B.l.length) 0) 0#8).length)) LN (fun h => g147a (by omega))) (by rintro _ _ ⟨rfl, rfl⟩; rfl) ?_)
                rintro _ _ ⟨rfl, rfl⟩
                exact At.intoF (hGi (hG27_3 )) rfl rfl (AllL.cons_ FK2 (AllL.cons_ FK2 trivial))
               ·
                refine At.bSQ (some 171) (Q_loadO (k := 11) rfl rfl Try.underlying3 rfl rfl rfl) ?_
                exact At.intoF (hGi (hG27_5 )) rfl rfl (AllL.cons_ FK2 (AllL.cons_ FK2 trivial))
              have hG27_8  : G 7 #[true, true, true, true, false, true, true, false, true, false, true, true, true, true, false, false, false, false] (frOf [(0, iV (n : Int)), (1, .slice A nr c), (7, ptr b0 0), (8, iV 0), (9, ptr bw 0), (10, iV (k : Int)), (12, ptr bc97 0), (159, ptr bc97 0), (161, iV x.i), (162, .slice A147 (((x.B.l.take ((min x.B.l.length 64) - 0)) ++ List.replicate (max (64 - x.B.l.length) 0) 0#8).length) c147), (164, ptr b0 0), (165, ptr b11 1), (167, .slice A147 (((x.B.l.take ((min x.B.l.length 64) - 0)) ++ List.replicate (max (64 - x.B.l.length) 0) 0#8).length) c147), (169, ptr bw 0), (171, iV x.i), (172, .slice A147 (((x.B.l.take ((min x.B.l.length 64) - 0)) ++ List.replicate (max (64 - x.B.l.length) 0) 0#8).length) c147)]) (famsOf (hOf [(0, ⟨false, b, q, 0, encs ActN L, 0⟩), (11, ⟨true, b11, 0, 40, [iV x.w, iV x.i, iV x.n, .slice x.B.A x.B.l.length x.B.c], 0⟩), (97, (DM.row d true bc97 bcs97 cc97)), (100, (DM.row d true b0 b1 n)), (101, (rowS true b1 d.S 0)), (102, ⟨true, bw, 0, 46, [.slice Aw n cw, .bool d.off, iV d.till, iV (d.torn : Int), iV d.wr], 0⟩), (103, ⟨true, bS, 0, 27, (es).map BG.v, cw - n⟩), (133, ⟨true, b147, 0, 5, (((x.B.l.take ((min x.B.l.length 64) - 0)) ++ List.replicate (max (64 - x.B.l.length) 0) 0#8)).map u8V, c147 - (((x.B.l.take ((min x.B.l.length 64) - 0)) ++ List.replicate (max (64 - x.B.l.length) 0) 0#8)).length⟩), (400, pRow x.B.b x.B.q x.B.l), (401, ⟨true, (es.getD ((x.i).toNat) default).b, 0, 5, ((es.getD ((x.i).toNat) default).w).map u8V, (es.getD ((x.i).toNat) default).c + (es.getD ((x.i).toNat) default).q - (es.getD ((x.i).toNat) default).w.length⟩), (1097, (rowS true bcs97 d.S ((cc97 - d.n) * 64)))]) [famGut 100000 5 es ((x.i).toNat), famR 100001 (L.map ActE.B)]) := by
               clear hG27_0 hG27_1 hG27_2 hG27_3 hG27_6 hG27_7
               refine hGo ?_
               refine At.bStep [4, 7] (by kernel_rfl) (by simp) ?_
               refine ⟨?_, ?_⟩
               ·
                refine At.bS true (by kernel_rfl) (S_callR (some 163) [(97, _), (1097, _)] [(133, _)] [97, 1097] (vs := [_, _, _]) rfl en11 rfl (ON rfl rfl (ON rfl rfl O0)) (by simp) (VN (by simp) rfl View.all V0) (by simp) (c_WriteN d hok bc97 bcs97 cc97 ((cc97 - d.n) * 64) (by first | omega | exact (show d.n ≤ cc97 by omega)) (i := x.i) (A := A147) (ca := c147) (bq := b147) (q := 0) (l := ((x.B.l.take ((min x.B.l.length 64) - 0)) ++ List.replicate (max (64 - x.B.l.length) 0) 0#8)) (nl := (((x.B.l.take ((min x.B.l.length 64) - 0)) ++ List.replicate (max (64 - x.B.l.length) 0) 0#8).length)) LN (fun h => g147a (by omega))) (by rintro _ _ ⟨rfl, rfl⟩; rfl) ?_)
                rintro _ _ ⟨rfl, rfl⟩
                exact At.intoF (hGi (hG27_4 )) rfl rfl (AllL.cons_ FK2 (AllL.cons_ FK2 trivial))
               ·
                refine At.bSQ (some 166) (Q_loadO (k := 11) rfl rfl Try.underlying3 rfl rfl rfl) ?_
                exact At.intoF (hGi (hG27_5 )) rfl rfl (AllL.cons_ FK2 (AllL.cons_ FK2 trivial))
              have hG27_9  : G 7 #[true, true, false, true, false, true, true, true, true, false, true, true, true, true, false, false, false, false] (frOf [(0, iV (n : Int)), (1, .slice A nr c), (7, ptr b0 0), (8, iV 0), (9, ptr bw 0), (10, iV (k : Int)), (12, ptr bc97 0), (159, ptr bc97 0), (160, ptr b11 1), (162, .slice A147 (((x.B.l.take ((min x.B.l.length 64) - 0)) ++ List.replicate (max (64 - x.B.l.length) 0) 0#8).length) c147), (164, ptr b0 0), (166, iV x.i), (167, .slice A147 (((x.B.l.take ((min x.B.l.length 64) - 0)) ++ List.replicate (max (64 - x.B.l.length) 0) 0#8).length) c147), (169, ptr bw 0), (171, iV x.i), (172, .slice A147 (((x.B.l.take ((min x.B.l.length 64) - 0)) ++ List.replicate (max (64 - x.B.l.length) 0) 0#8).length) c147)]) (famsOf (hOf [(0, ⟨false, b, q, 0, encs ActN L, 0⟩), (11, ⟨true, b11, 0, 40, [iV x.w, iV x.i, iV x.n, .slice x.B.A x.B.l.length x.B.c], 0⟩), (97, (DM.row d true bc97 bcs97 cc97)), (100, (DM.row d true b0 b1 n)), (101, (rowS true b1 d.S 0)), (102, ⟨true, bw, 0, 46, [.slice Aw n cw, .bool d.off, iV d.till, iV (d.torn : Int), iV d.wr], 0⟩), (103, ⟨true, bS, 0, 27, (es).map BG.v, cw - n⟩), (133, ⟨true, b147, 0, 5, (((x.B.l.take ((min x.B.l.length 64) - 0)) ++ List.replicate (max (64 - x.B.l.length) 0) 0#8)).map u8V, c147 - (((x.B.l.take ((min x.B.l.length 64) - 0)) ++ List.replicate (max (64 - x.B.l.length) 0) 0#8)).length⟩), (400, pRow x.B.b x.B.q x.B.l), (401, ⟨true, (es.getD ((x.i).toNat) default).b, 0, 5, ((es.getD ((x.i).toNat) default).w).map u8V, (es.getD ((x.i).toNat) default).c + (es.getD ((x.i).toNat) default).q - (es.getD ((x.i).toNat) default).w.length⟩), (1097, (rowS true bcs97 d.S ((cc97 - d.n) * 64)))]) [famGut 100000 5 es ((x.i).toNat), famR 100001 (L.map ActE.B)]) := by
               clear hG27_0 hG27_1 hG27_2 hG27_3 hG27_4 hG27_6 hG27_7 hG27_8
               refine hGo ?_
               refine At.bStep [2] (by kernel_rfl) (by simp) ?_
               refine At.bSQ (some 161) (Q_loadO (k := 11) rfl rfl Try.underlying3 rfl rfl rfl) ?_
               exact At.intoF (hGi (hG27_5 )) rfl rfl (AllL.cons_ FK2 (AllL.cons_ FK2 trivial))
              have hG27_10  : G 8 #[true, true, true, true, false, true, true, false, true, false, true, true, false, true, false, false, false, false] (frOf [(0, iV (n : Int)), (1, .slice A nr c), (7, ptr b0 0), (8, iV 0), (9, ptr bw 0), (10, iV (k : Int)), (12, ptr bc97 0), (159, ptr bc97 0), (161, iV x.i), (162, .slice A147 (((x.B.l.take ((min x.B.l.length 64) - 0)) ++ List.replicate (max (64 - x.B.l.length) 0) 0#8).length) c147), (164, ptr b0 0), (165, ptr b11 1), (167, .slice A147 (((x.B.l.take ((min x.B.l.length 64) - 0)) ++ List.replicate (max (64 - x.B.l.length) 0) 0#8).length) c147), (169, ptr bw 0), (170, ptr b11 1), (172, .slice A147 (((x.B.l.take ((min x.B.l.length 64) - 0)) ++ List.replicate (max (64 - x.B.l.length) 0) 0#8).length) c147)]) (famsOf (hOf [(0, ⟨false, b, q, 0, encs ActN L, 0⟩), (11, ⟨true, b11, 0, 40, [iV x.w, iV x.i, iV x.n, .slice x.B.A x.B.l.length x.B.c], 0⟩), (97, (DM.row d true bc97 bcs97 cc97)), (100, (DM.row d true b0 b1 n)), (101, (rowS true b1 d.S 0)), (102, ⟨true, bw, 0, 46, [.slice Aw n cw, .bool d.off, iV d.till, iV (d.torn : Int), iV d.wr], 0⟩), (103, ⟨true, bS, 0, 27, (es).map BG.v, cw - n⟩), (133, ⟨true, b147, 0, 5, (((x.B.l.take ((min x.B.l.length 64) - 0)) ++ List.replicate (max (64 - x.B.l.length) 0) 0#8)).map u8V, c147 - (((x.B.l.take ((min x.B.l.length 64) - 0)) ++ List.replicate (max (64 - x.B.l.length) 0) 0#8)).length⟩), (400, pRow x.B.b x.B.q x.B.l), (401, ⟨true, (es.getD ((x.i).toNat) default).b, 0, 5, ((es.getD ((x.i).toNat) default).w).map u8V, (es.getD ((x.i).toNat) default).c + (es.getD ((x.i).toNat) default).q - (es.getD ((x.i).toNat) default).w.length⟩), (1097, (rowS true bcs97 d.S ((cc97 - d.n) * 64)))]) [famGut 100000 5 es ((x.i).toNat), famR 100001 (L.map ActE.B)]) := by
               clear hG27_0 hG27_1 hG27_2 hG27_3 hG27_4 hG27_5 hG27_9
               refine hGo ?_
               refine At.bStep [4, 7, 12] (by kernel_rfl) (by simp) ?_
               refine ⟨?_, ?_, ?_⟩
               ·
                refine At.bS true (by kernel_rfl) (S_callR (some 163) [(97, _), (1097, _)] [(133, _)] [97, 1097] (vs := [_, _, _]) rfl en11 rfl (ON rfl rfl (ON rfl rfl O0)) (by simp) (VN (by simp) rfl View.all V0) (by simp) (c_WriteN d hok bc97 bcs97 cc97 ((cc97 - d.n) * 64) (by first | omega | exact (show d.n ≤ cc97 by omega)) (i := x.i) (A := A147) (ca := c147) (bq := b147) (q := 0) (l := ((x.B.l.take ((min x.B.l.length 64) - 0)) ++ List.replicate (max (64 - x.B.l.length) 0) 0#8)) (nl := (((x.B.l.take ((min x.B.l.length 64) - 0)) ++ List.replicate (max (64 - x.B.l.length) 0) 0#8).length)) LN (fun h => g147a (by omega))) (by rintro _ _ ⟨rfl, rfl⟩; rfl) ?_)
                rintro _ _ ⟨rfl, rfl⟩
                exact At.intoF (hGi (hG27_6 )) rfl rfl (AllL.cons_ FK2 (AllL.cons_ FK2 trivial))
               ·
                refine At.bSQ (some 166) (Q_loadO (k := 11) rfl rfl Try.underlying3 rfl rfl rfl) ?_
                exact At.intoF (hGi (hG27_7 )) rfl rfl (AllL.cons_ FK2 (AllL.cons_ FK2 trivial))
               ·
                refine At.bSQ (some 171) (Q_loadO (k := 11) rfl rfl Try.underlying3 rfl rfl rfl) ?_
                exact At.intoF (hGi (hG27_8 )) rfl rfl (AllL.cons_ FK2 (AllL.cons_ FK2 trivial))
              have hG27_11  : G 8 #[true, true, false, true, false, true, true, true, true, false, true, true, false, true, false, false, false, false] (frOf [(0, iV (n : Int)), (1, .slice A nr c), (7, ptr b0 0), (8, iV 0), (9, ptr bw 0), (10, iV (k : Int)), (12, ptr bc97 0), (159, ptr bc97 0), (160, ptr b11 1), (162, .slice A147 (((x.B.l.take ((min x.B.l.length 64) - 0)) ++ List.replicate (max (64 - x.B.l.length) 0) 0#8).length) c147), (164, ptr b0 0), (166, iV x.i), (167, .slice A147 (((x.B.l.take ((min x.B.l.length 64) - 0)) ++ List.replicate (max (64 - x.B.l.length) 0) 0#8).length) c147), (169, ptr bw 0), (170, ptr b11 1), (172, .slice A147 (((x.B.l.take ((min x.B.l.length 64) - 0)) ++ List.replicate (max (64 - x.B.l.length) 0) 0#8).length) c147)]) (famsOf (hOf [(0, ⟨false, b, q, 0, encs ActN L, 0⟩), (11, ⟨true, b11, 0, 40, [iV x.w, iV x.i, iV x.n, .slice x.B.A x.B.l.length x.B.c], 0⟩), (97, (DM.row d true bc97 bcs97 cc97)), (100, (DM.row d true b0 b1 n)), (101, (rowS true b1 d.S 0)), (102, ⟨true, bw, 0, 46, [.slice Aw n cw, .bool d.off, iV d.till, iV (d.torn : Int), iV d.wr], 0⟩), (103, ⟨true, bS, 0, 27, (es).map BG.v, cw - n⟩), (133, ⟨true, b147, 0, 5, (((x.B.l.take ((min x.B.l.length 64) - 0)) ++ List.replicate (max (64 - x.B.l.length) 0) 0#8)).map u8V, c147 - (((x.B.l.take ((min x.B.l.length 64) - 0)) ++ List.replicate (max (64 - x.B.l.length) 0) 0#8)).length⟩), (400, pRow x.B.b x.B.q x.B.l), (401, ⟨true, (es.getD ((x.i).toNat) default).b, 0, 5, ((es.getD ((x.i).toNat) default).w).map u8V, (es.getD ((x.i).toNat) default).c + (es.getD ((x.i).toNat) default).q - (es.getD ((x.i).toNat) default).w.length⟩), (1097, (rowS true bcs97 d.S ((cc97 - d.n) * 64)))]) [famGut 100000 5 es ((x.i).toNat), famR 100001 (L.map ActE.B)]) := by
               clear hG27_0 hG27_1 hG27_2 hG27_3 hG27_4 hG27_5 hG27_6 hG27_8 hG27_10
               refine hGo ?_
               refine At.bStep [2, 12] (by kernel_rfl) (by simp) ?_
               refine ⟨?_, ?_⟩
               ·
                refine At.bSQ (some 161) (Q_loadO (k := 11) rfl rfl Try.underlying3 rfl rfl rfl) ?_
                exact At.intoF (hGi (hG27_7 )) rfl rfl (AllL.cons_ FK2 (AllL.cons_ FK2 trivial))
               ·
                refine At.bSQ (some 171) (Q_loadO (k := 11) rfl rfl Try.underlying3 rfl rfl rfl) ?_
                exact At.intoF (hGi (hG27_9 )) rfl rfl (AllL.cons_ FK2 (AllL.cons_ FK2 trivial))
              have hG27_12  : G 8 #[true, true, false, true, false, true, true, false, true, false, true, true, true, true, false, false, false, false] (frOf [(0, iV (n : Int)), (1, .slice A nr c), (7, ptr b0 0), (8, iV 0), (9, ptr bw 0), (10, iV (k : Int)), (12, ptr bc97 0), (159, ptr bc97 0), (160, ptr b11 1), (162, .slice A147 (((x.B.l.take ((min x.B.l.length 64) - 0)) ++ List.replicate (max (64 - x.B.l.length) 0) 0#8).length) c147), (164, ptr b0 0), (165, ptr b11 1), (167, .slice A147 (((x.B.l.take ((min x.B.l.length 64) - 0)) ++ List.replicate (max (64 - x.B.l.length) 0) 0#8).length) c147), (169, ptr bw 0), (171, iV x.i), (172, .slice A147 (((x.B.l.take ((min x.B.l.length 64) - 0)) ++ List.replicate (max (64 - x.B.l.length) 0) 0#8).length) c147)]) (famsOf (hOf [(0, ⟨false, b, q, 0, encs ActN L, 0⟩), (11, ⟨true, b11, 0, 40, [iV x.w, iV x.i, iV x.n, .slice x.B.A x.B.l.length x.B.c], 0⟩), (97, (DM.row d true bc97 bcs97 cc97)), (100, (DM.row d true b0 b1 n)), (101, (rowS true b1 d.S 0)), (102, ⟨true, bw, 0, 46, [.slice Aw n cw, .bool d.off, iV d.till, iV (d.torn : Int), iV d.wr], 0⟩), (103, ⟨true, bS, 0, 27, (es).map BG.v, cw - n⟩), (133, ⟨true, b147, 0, 5, (((x.B.l.take ((min x.B.l.length 64) - 0)) ++ List.replicate (max (64 - x.B.l.length) 0) 0#8)).map u8V, c147 - (((x.B.l.take ((min x.B.l.length 64) - 0)) ++ List.replicate (max (64 - x.B.l.length) 0) 0#8)).length⟩), (400, pRow x.B.b x.B.q x.B.l), (401, ⟨true, (es.getD ((x.i).toNat) default).b, 0, 5, ((es.getD ((x.i).toNat) default).w).map u8V, (es.getD ((x.i).toNat) default).c + (es.getD ((x.i).toNat) default).q - (es.getD ((x.i).toNat) default).w.length⟩), (1097, (rowS true bcs97 d.S ((cc97 - d.n) * 64)))]) [famGut 100000 5 es ((x.i).toNat), famR 100001 (L.map ActE.B)]) := by
               clear hG27_0 hG27_1 hG27_2 hG27_3 hG27_4 hG27_5 hG27_6 hG27_7 hG27_10 hG27_11
               refine hGo ?_
               refine At.bStep [2, 7] (by kernel_rfl) (by simp) ?_
               refine ⟨?_, ?_⟩
               ·
                refine At.bSQ (some 161) (Q_loadO (k := 11) rfl rfl Try.underlying3 rfl rfl rfl) ?_
                exact At.intoF (hGi (hG27_8 )) rfl rfl (AllL.cons_ FK2 (AllL.cons_ FK2 trivial))
               ·
                refine At.bSQ (some 166) (Q_loadO (k := 11) rfl rfl Try.underlying3 rfl rfl rfl) ?_
                exact At.intoF (hGi (hG27_9 )) rfl rfl (AllL.cons_ FK2 (AllL.cons_ FK2 trivial))
              have hG27_13  : G 9 #[true, true, false, true, false, true, true, false, true, false, true, true, false, true, false, false, false, false] (frOf [(0, iV (n : Int)), (1, .slice A nr c), (7, ptr b0 0), (8, iV 0), (9, ptr bw 0), (10, iV (k : Int)), (12, ptr bc97 0), (159, ptr bc97 0), (160, ptr b11 1), (162, .slice A147 (((x.B.l.take ((min x.B.l.length 64) - 0)) ++ List.replicate (max (64 - x.B.l.length) 0) 0#8).length) c147), (164, ptr b0 0), (165, ptr b11 1), (167, .slice A147 (((x.B.l.take ((min x.B.l.length 64) - 0)) ++ List.replicate (max (64 - x.B.l.length) 0) 0#8).length) c147), (169, ptr bw 0), (170, ptr b11 1), (172, .slice A147 (((x.B.l.take ((min x.B.l.length 64) - 0)) ++ List.replicate (max (64 - x.B.l.length) 0) 0#8).length) c147)]) (famsOf (hOf [(0, ⟨false, b, q, 0, encs ActN L, 0⟩), (11, ⟨true, b11, 0, 40, [iV x.w, iV x.i, iV x.n, .slice x.B.A x.B.l.length x.B.c], 0⟩), (97, (DM.row d true bc97 bcs97 cc97)), (100, (DM.row d true b0 b1 n)), (101, (rowS true b1 d.S 0)), (102, ⟨true, bw, 0, 46, [.slice Aw n cw, .bool d.off, iV d.till, iV (d.torn : Int), iV d.wr], 0⟩), (103, ⟨true, bS, 0, 27, (es).map BG.v, cw - n⟩), (133, ⟨true, b147, 0, 5, (((x.B.l.take ((min x.B.l.length 64) - 0)) ++ List.replicate (max (64 - x.B.l.length) 0) 0#8)).map u8V, c147 - (((x.B.l.take ((min x.B.l.length 64) - 0)) ++ List.replicate (max (64 - x.B.l.length) 0) 0#8)).length⟩), (400, pRow x.B.b x.B.q x.B.l), (401, ⟨true, (es.getD ((x.i).toNat) default).b, 0, 5, ((es.getD ((x.i).toNat) default).w).map u8V, (es.getD ((x.i).toNat) default).c + (es.getD ((x.i).toNat) default).q - (es.getD ((x.i).toNat) default).w.length⟩), (1097, (rowS true bcs97 d.S ((cc97 - d.n) * 64)))]) [famGut 100000 5 es ((x.i).toNat), famR 100001 (L.map ActE.B)]) := by
               clear hG27_0 hG27_1 hG27_2 hG27_3 hG27_4 hG27_5 hG27_6 hG27_7 hG27_8 hG27_9
               refine hGo ?_
               refine At.bStep [2, 7, 12] (by kernel_rfl) (by simp) ?_
               refine ⟨?_, ?_, ?_⟩
               ·
                refine At.bSQ (some 161) (Q_loadO (k := 11) rfl rfl Try.underlying3 rfl rfl rfl) ?_
                exact At.intoF (hGi (hG27_10 )) rfl rfl (AllL.cons_ FK2 (AllL.cons_ FK2 trivial))
               ·
                refine At.bSQ (some 166) (Q_loadO (k := 11) rfl rfl Try.underlying3 rfl rfl rfl) ?_
                exact At.intoF (hGi (hG27_11 )) rfl rfl (AllL.cons_ FK2 (AllL.cons_ FK2 trivial))
               ·
                refine At.bSQ (some 171) (Q_loadO (k := 11) rfl rfl Try.underlying3 rfl rfl rfl) ?_
                exact At.intoF (hGi (hG27_12 )) rfl rfl (AllL.cons_ FK2 (AllL.cons_ FK2 trivial))
              clear hG27_0 hG27_1 hG27_2 hG27_3 hG27_4 hG27_5 hG27_6 hG27_7 hG27_8 hG27_9 hG27_10 hG27_11 hG27_12
              refine hGo ?_
              refine At.bP  0 (some 159) (P_move rfl rfl) (by kernel_rfl) (by kernel_rfl) ?_
              refine At.bP  1 (some 160) (P_fieldAddr0 (off := 1) rfl Try.underlying40 rfl sz3 rfl rfl) (by kernel_rfl) (by kernel_rfl) ?_
              refine At.bP  3 (some 162) (P_move rfl rfl) (by kernel_rfl) (by kernel_rfl) ?_
              refine At.bP  5 (some 164) (P_move rfl rfl) (by kernel_rfl) (by kernel_rfl) ?_
              refine At.bP  6 (some 165) (P_fieldAddr0 (off := 1) rfl Try.underlying40 rfl sz3 rfl rfl) (by kernel_rfl) (by kernel_rfl) ?_
              refine At.bP  8 (some 167) (P_move rfl rfl) (by kernel_rfl) (by kernel_rfl) ?_
              refine At.bP  10 (some 169) (P_move rfl rfl) (by kernel_rfl) (by kernel_rfl) ?_
              refine At.bP  11 (some 170) (P_fieldAddr0 (off := 1) rfl Try.underlying40 rfl sz3 rfl rfl) (by kernel_rfl) (by kernel_rfl) ?_
              refine At.bP  13 (some 172) (P_move rfl rfl) (by kernel_rfl) (by kernel_rfl) ?_
              exact At.intoF (hGi (hG27_13 )) rfl rfl (AllL.cons_ FK2 (AllL.cons_ FK2 trivial))
             ·
              rintro fr H ⟨y, rfl, rfl, hyo, hyl, -⟩
              refine At.next ?_
              refine At.toM [(0, iV (n : Int)), (1, .slice A nr c), (7, ptr b0 0), (8, iV 0), (9, ptr bw 0), (10, iV (k : Int)), (12, ptr bc97 0), (18, iV ((d.write x.i ((x.B.l.take ((min x.B.l.length 64) - 0)) ++ List.replicate (max (64 - x.B.l.length) 0) 0#8)).2)), (19, iV ((d.write x.i ((x.B.l.take ((min x.B.l.length 64) - 0)) ++ List.replicate (max (64 - x.B.l.length) 0) 0#8)).2)), (20, iV (wrE d.till))] [(402, ⟨true, y.b, 0, 5, (y.w).map u8V, y.c + y.q - y.w.length⟩), (0, ⟨false, b, q, 0, encs ActN L, 0⟩), (97, (DM.row ((d.write x.i ((x.B.l.take ((min x.B.l.length 64) - 0)) ++ List.replicate (max (64 - x.B.l.length) 0) 0#8)).1) true bc97 bcs97 cc97)), (100, (DM.row ((d.write x.i ((x.B.l.take ((min x.B.l.length 64) - 0)) ++ List.replicate (max (64 - x.B.l.length) 0) 0#8)).1) true b0 b1 n)), (101, (rowS true b1 ((d.write x.i ((x.B.l.take ((min x.B.l.length 64) - 0)) ++ List.replicate (max (64 - x.B.l.length) 0) 0#8)).1).S 0)), (102, ⟨true, bw, 0, 46, [.slice Aw n cw, .bool (((d.write x.i ((x.B.l.take ((min x.B.l.length 64) - 0)) ++ List.replicate (max (64 - x.B.l.length) 0) 0#8)).1).off), iV (((d.write x.i ((x.B.l.take ((min x.B.l.length 64) - 0)) ++ List.replicate (max (64 - x.B.l.length) 0) 0#8)).1).till), iV (((d.write x.i ((x.B.l.take ((min x.B.l.length 64) - 0)) ++ List.replicate (max (64 - x.B.l.length) 0) 0#8)).1).torn : Int), iV (((d.write x.i ((x.B.l.take ((min x.B.l.length 64) - 0)) ++ List.replicate (max (64 - x.B.l.length) 0) 0#8)).1).wr)], 0⟩), (103, ⟨true, bS, 0, 27, ((es.set (x.i).toNat y)).map BG.v, cw - n⟩), (1097, (rowS true bcs97 ((d.write x.i ((x.B.l.take ((min x.B.l.length 64) - 0)) ++ List.replicate (max (64 - x.B.l.length) 0) 0#8)).1).S ((cc97 - d.n) * 64)))] [famGut 100000 5 es ((x.i).toNat), famR 100001 (L.map ActE.B)] (AllL.cons_ rfl (AllL.cons_ rfl (AllL.cons_ rfl (AllL.cons_ rfl (AllL.cons_ rfl (AllL.cons_ rfl (AllL.cons_ rfl (AllL.cons_ rfl (AllL.cons_ rfl (AllL.cons_ rfl trivial)))))))))) (AllL.cons_ rfl (AllL.cons_ rfl (AllL.cons_ rfl (AllL.cons_ rfl (AllL.cons_ rfl (AllL.cons_ rfl (AllL.cons_ rfl (AllL.cons_ rfl trivial)))))))) (AllL.cons_ FK2 (AllL.cons_ FK2 trivial)) ?_
              refine At.famSetG y (by omega) (AllL.cons_ rfl (AllL.cons_ rfl (AllL.cons_ rfl (AllL.cons_ rfl (AllL.cons_ rfl (AllL.cons_ rfl (AllL.cons_ rfl trivial))))))) rfl (AllL.cons_ rfl trivial) ?_
              refine At.toM [(0, _), (1, _), (7, _), (8, _), (9, _), (10, _), (12, _), (18, _), (19, _), (20, iV ((d.write x.i ((x.B.l.take ((min x.B.l.length 64) - 0)) ++ List.replicate (max (64 - x.B.l.length) 0) 0#8)).2))] [(0, _), (97, _), (100, _), (101, _), (102, _), (103, _), (1097, _)] [famG 100000 5 (es.set (x.i).toNat y), famR 100001 (L.map ActE.B)] (AllL.cons_ (rfl) (AllL.cons_ (rfl) (AllL.cons_ (rfl) (AllL.cons_ (rfl) (AllL.cons_ (rfl) (AllL.cons_ (rfl) (AllL.cons_ (rfl) (AllL.cons_ (rfl) (AllL.cons_ (rfl) (AllL.cons_ ((by rw [hz1]; rfl)) trivial)))))))))) (AllL.cons_ (rfl) (AllL.cons_ (rfl) (AllL.cons_ (rfl) (AllL.cons_ (rfl) (AllL.cons_ (rfl) (AllL.cons_ (rfl) (AllL.cons_ (rfl) trivial))))))) (AllL.cons_ FK2 (AllL.cons_ FK2 trivial)) ?_
              exact hKj6 _ _ ⟨(d.write x.i ((x.B.l.take ((min x.B.l.length 64) - 0)) ++ List.replicate (max (64 - x.B.l.length) 0) 0#8)).1, (d.write x.i ((x.B.l.take ((min x.B.l.length 64) - 0)) ++ List.replicate (max (64 - x.B.l.length) 0) 0#8)).2, (es.set (x.i).toNat y), rfl, rfl, (DM.write_ok hok (by omega)), (DM.write_n.trans hdn), (by have := DM.write_wr (d := d) (i := x.i) (l := ((x.B.l.take ((min x.B.l.length 64) - 0)) ++ List.replicate (max (64 - x.B.l.length) 0) 0#8)); omega), (SecOk.writeI hok hs hc1 hll hyl), (ok_set hes hyo _)⟩
            · -- case 1
             have hcn : mayE d.off n x.i ≠ 0 ∨ ((x.B.l.take ((min x.B.l.length 64) - 0)) ++ List.replicate (max (64 - x.B.l.length) 0) 0#8).length ≠ 64 := by rw [← hdn]; rcases Classical.em (mayE d.off d.n x.i = 0) with h | h; exact .inr (fun h2 => hc ⟨h, h2⟩); exact .inl h
             have hll : ((x.B.l.take ((min x.B.l.length 64) - 0)) ++ List.replicate (max (64 - x.B.l.length) 0) 0#8).length = ((x.B.l.take ((min x.B.l.length 64) - 0)) ++ List.replicate (max (64 - x.B.l.length) 0) 0#8).length := LN
             obtain ⟨hz1, hz2⟩ := wr_no (d := d) (i := x.i) (l := ((x.B.l.take ((min x.B.l.length 64) - 0)) ++ List.replicate (max (64 - x.B.l.length) 0) 0#8)) (by rw [hll, hdn]; exact hcn)
             refine At.bBruteG [4, 9, 14] (fun fr H => fr = frOf [(0, iV (n : Int)), (1, .slice A nr c), (7, ptr b0 0), (8, iV 0), (9, ptr bw 0), (10, iV (k : Int)), (12, ptr bc97 0), (18, iV ((d.write x.i ((x.B.l.take ((min x.B.l.length 64) - 0)) ++ List.replicate (max (64 - x.B.l.length) 0) 0#8)).2)), (19, iV ((d.write x.i ((x.B.l.take ((min x.B.l.length 64) - 0)) ++ List.replicate (max (64 - x.B.l.length) 0) 0#8)).2)), (20, iV (if mayE d.off n x.i ≠ 0 then mayE d.off n x.i else 1))] ∧ H = famsOf (hOf [(0, ⟨false, b, q, 0, encs ActN L, 0⟩), (97, (DM.row ((d.write x.i ((x.B.l.take ((min x.B.l.length 64) - 0)) ++ List.replicate (max (64 - x.B.l.length) 0) 0#8)).1) true bc97 bcs97 cc97)), (100, (DM.row ((d.write x.i ((x.B.l.take ((min x.B.l.length 64) - 0)) ++ List.replicate (max (64 - x.B.l.length) 0) 0#8)).1) true b0 b1 n)), (101, (rowS true b1 ((d.write x.i ((x.B.l.take ((min x.B.l.length 64) - 0)) ++ List.replicate (max (64 - x.B.l.length) 0) 0#8)).1).S 0)), (102, ⟨true, bw, 0, 46, [.slice Aw n cw, .bool (((d.write x.i ((x.B.l.take ((min x.B.l.length 64) - 0)) ++ List.replicate (max (64 - x.B.l.length) 0) 0#8)).1).off), iV (((d.write x.i ((x.B.l.take ((min x.B.l.length 64) - 0)) ++ List.replicate (max (64 - x.B.l.length) 0) 0#8)).1).till), iV (((d.write x.i ((x.B.l.take ((min x.B.l.length 64) - 0)) ++ List.replicate (max (64 - x.B.l.length) 0) 0#8)).1).torn : Int), iV (((d.write x.i ((x.B.l.take ((min x.B.l.length 64) - 0)) ++ List.replicate (max (64 - x.B.l.length) 0) 0#8)).1).wr)], 0⟩), (103, ⟨true, bS, 0, 27, (es).map BG.v, cw - n⟩), (1097, (rowS true bcs97 ((d.write x.i ((x.B.l.take ((min x.B.l.length 64) - 0)) ++ List.replicate (max (64 - x.B.l.length) 0) 0#8)).1).S ((cc97 - d.n) * 64)))]) [famG 100000 5 es, famR 100001 (L.map ActE.B)] ∧ True) (by kernel_rfl) ?_ ?_
             ·
              intro Kb hKb G hGi hGo
              have hG27_0  : G 0 #[true, true, true, true, true, true, true, true, true, true, true, true, true, true, true, true, true, true] (frOf [(0, iV (n : Int)), (1, .slice A nr c), (7, ptr b0 0), (8, iV 0), (9, ptr bw 0), (10, iV (k : Int)), (12, ptr bc97 0), (18, iV ((d.write x.i ((x.B.l.take ((min x.B.l.length 64) - 0)) ++ List.replicate (max (64 - x.B.l.length) 0) 0#8)).2)), (19, iV ((d.write x.i ((x.B.l.take ((min x.B.l.length 64) - 0)) ++ List.replicate (max (64 - x.B.l.length) 0) 0#8)).2)), (20, iV (if mayE d.off n x.i ≠ 0 then mayE d.off n x.i else 1))]) (famsOf (hOf [(0, ⟨false, b, q, 0, encs ActN L, 0⟩), (97, (DM.row ((d.write x.i ((x.B.l.take ((min x.B.l.length 64) - 0)) ++ List.replicate (max (64 - x.B.l.length) 0) 0#8)).1) true bc97 bcs97 cc97)), (100, (DM.row ((d.write x.i ((x.B.l.take ((min x.B.l.length 64) - 0)) ++ List.replicate (max (64 - x.B.l.length) 0) 0#8)).1) true b0 b1 n)), (101, (rowS true b1 ((d.write x.i ((x.B.l.take ((min x.B.l.length 64) - 0)) ++ List.replicate (max (64 - x.B.l.length) 0) 0#8)).1).S 0)), (102, ⟨true, bw, 0, 46, [.slice Aw n cw, .bool (((d.write x.i ((x.B.l.take ((min x.B.l.length 64) - 0)) ++ List.replicate (max (64 - x.B.l.length) 0) 0#8)).1).off), iV (((d.write x.i ((x.B.l.take ((min x.B.l.length 64) - 0)) ++ List.replicate (max (64 - x.B.l.length) 0) 0#8)).1).till), iV (((d.write x.i ((x.B.l.take ((min x.B.l.length 64) - 0)) ++ List.replicate (max (64 - x.B.l.length) 0) 0#8)).1).torn : Int), iV (((d.write x.i ((x.B.l.take ((min x.B.l.length 64) - 0)) ++ List.replicate (max (64 - x.B.l.length) 0) 0#8)).1).wr)], 0⟩), (103, ⟨true, bS, 0, 27, (es).map BG.v, cw - n⟩), (1097, (rowS true bcs97 ((d.write x.i ((x.B.l.take ((min x.B.l.length 64) - 0)) ++ List.replicate (max (64 - x.B.l.length) 0) 0#8)).1).S ((cc97 - d.n) * 64)))]) [famG 100000 5 es, famR 100001 (L.map ActE.B)]) := by
               refine hGo ?_
               refine At.bEnd (by kernel_rfl) ?_
               refine At.next ?_
               exact hKb _ _ ⟨rfl, rfl, trivial⟩
              have hG27_1  : G 4 #[true, true, true, true, true, true, true, true, true, true, true, true, true, true, false, false, false, false] (frOf [(0, iV (n : Int)), (1, .slice A nr c), (7, ptr b0 0), (8, iV 0), (9, ptr bw 0), (10, iV (k : Int)), (12, ptr bc97 0), (163, iV ((d.write x.i ((x.B.l.take ((min x.B.l.length 64) - 0)) ++ List.replicate (max (64 - x.B.l.length) 0) 0#8)).2)), (168, iV ((d.write x.i ((x.B.l.take ((min x.B.l.length 64) - 0)) ++ List.replicate (max (64 - x.B.l.length) 0) 0#8)).2)), (169, ptr bw 0), (171, iV x.i), (172, .slice A147 (((x.B.l.take ((min x.B.l.length 64) - 0)) ++ List.replicate (max (64 - x.B.l.length) 0) 0#8).length) c147)]) (famsOf (hOf [(0, ⟨false, b, q, 0, encs ActN L, 0⟩), (97, (DM.row ((d.write x.i ((x.B.l.take ((min x.B.l.length 64) - 0)) ++ List.replicate (max (64 - x.B.l.length) 0) 0#8)).1) true bc97 bcs97 cc97)), (100, (DM.row ((d.write x.i ((x.B.l.take ((min x.B.l.length 64) - 0)) ++ List.replicate (max (64 - x.B.l.length) 0) 0#8)).1) true b0 b1 n)), (101, (rowS true b1 ((d.write x.i ((x.B.l.take ((min x.B.l.length 64) - 0)) ++ List.replicate (max (64 - x.B.l.length) 0) 0#8)).1).S 0)), (102, ⟨true, bw, 0, 46, [.slice Aw n cw, .bool d.off, iV d.till, iV (d.torn : Int), iV d.wr], 0⟩), (103, ⟨true, bS, 0, 27, (es).map BG.v, cw - n⟩), (133, ⟨true, b147, 0, 5, (((x.B.l.take ((min x.B.l.length 64) - 0)) ++ List.replicate (max (64 - x.B.l.length) 0) 0#8)).map u8V, c147 - (((x.B.l.take ((min x.B.l.length 64) - 0)) ++ List.replicate (max (64 - x.B.l.length) 0) 0#8)).length⟩), (1097, (rowS true bcs97 ((d.write x.i ((x.B.l.take ((min x.B.l.length 64) - 0)) ++ List.replicate (max (64 - x.B.l.length) 0) 0#8)).1).S ((cc97 - d.n) * 64)))]) [famG 100000 5 es, famR 100001 (L.map ActE.B)]) := by
               refine hGo ?_
               refine At.bStep [14] (by kernel_rfl) (by simp) ?_
               refine At.bS true (by kernel_rfl) (S_callR (some 173) [(102, _), (103, _)] [] [102, 103] (vs := [_, _, _]) rfl en22 rfl (ON rfl rfl (ON rfl rfl O0)) (by simp) V0 (by simp) (r_WriteN (bw := bw) (bS := bS) (cw := cw) (torn := d.torn) (m := n) (off := d.off) (till := d.till) (wr := d.wr) (es := es) (Aw := Aw) (i := x.i) (A := A147) (nl := (((x.B.l.take ((min x.B.l.length 64) - 0)) ++ List.replicate (max (64 - x.B.l.length) 0) 0#8).length)) (c := c147) hAw hcw (by first | assumption | omega) (by omega) hcn) (by rintro _ _ ⟨rfl, rfl⟩; rfl) ?_)
               rintro _ _ ⟨rfl, rfl⟩
               refine At.row 102 (⟨true, bw, 0, 46, [.slice Aw n cw, .bool (((d.write x.i ((x.B.l.take ((min x.B.l.length 64) - 0)) ++ List.replicate (max (64 - x.B.l.length) 0) 0#8)).1).off), iV (((d.write x.i ((x.B.l.take ((min x.B.l.length 64) - 0)) ++ List.replicate (max (64 - x.B.l.length) 0) 0#8)).1).till), iV (((d.write x.i ((x.B.l.take ((min x.B.l.length 64) - 0)) ++ List.replicate (max (64 - x.B.l.length) 0) 0#8)).1).torn : Int), iV (((d.write x.i ((x.B.l.take ((min x.B.l.length 64) - 0)) ++ List.replicate (max (64 - x.B.l.length) 0) 0#8)).1).wr)], 0⟩) rfl (by rw [hz1]) ?_
               refine At.bP  15 (some 18) (P_assign rfl rfl) (by kernel_rfl) (by kernel_rfl) ?_
               refine At.bP  16 (some 19) (P_assign rfl rfl) (by kernel_rfl) (by kernel_rfl) ?_
               refine At.bP  17 (some 20) (P_assign rfl rfl) (by kernel_rfl) (by kernel_rfl) ?_
               exact At.intoF (hGi (hG27_0 )) rfl rfl (AllL.cons_ FK2 (AllL.cons_ FK2 trivial))
              have hG27_2  : G 5 #[true, true, true, true, true, true, true, true, true, false, true, true, true, true, false, false, false, false] (frOf [(0, iV (n : Int)), (1, .slice A nr c), (7, ptr b0 0), (8, iV 0), (9, ptr bw 0), (10, iV (k : Int)), (12, ptr bc97 0), (163, iV ((d.write x.i ((x.B.l.take ((min x.B.l.length 64) - 0)) ++ List.replicate (max (64 - x.B.l.length) 0) 0#8)).2)), (164, ptr b0 0), (166, iV x.i), (167, .slice A147 (((x.B.l.take ((min x.B.l.length 64) - 0)) ++ List.replicate (max (64 - x.B.l.length) 0) 0#8).length) c147), (169, ptr bw 0), (171, iV x.i), (172, .slice A147 (((x.B.l.take ((min x.B.l.length 64) - 0)) ++ List.replicate (max (64 - x.B.l.length) 0) 0#8).length) c147)]) (famsOf (hOf [(0, ⟨false, b, q, 0, encs ActN L, 0⟩), (97, (DM.row ((d.write x.i ((x.B.l.take ((min x.B.l.length 64) - 0)) ++ List.replicate (max (64 - x.B.l.length) 0) 0#8)).1) true bc97 bcs97 cc97)), (100, (DM.row d true b0 b1 n)), (101, (rowS true b1 d.S 0)), (102, ⟨true, bw, 0, 46, [.slice Aw n cw, .bool d.off, iV d.till, iV (d.torn : Int), iV d.wr], 0⟩), (103, ⟨true, bS, 0, 27, (es).map BG.v, cw - n⟩), (133, ⟨true, b147, 0, 5, (((x.B.l.take ((min x.B.l.length 64) - 0)) ++ List.replicate (max (64 - x.B.l.length) 0) 0#8)).map u8V, c147 - (((x.B.l.take ((min x.B.l.length 64) - 0)) ++ List.replicate (max (64 - x.B.l.length) 0) 0#8)).length⟩), (1097, (rowS true bcs97 ((d.write x.i ((x.B.l.take ((min x.B.l.length 64) - 0)) ++ List.replicate (max (64 - x.B.l.length) 0) 0#8)).1).S ((cc97 - d.n) * 64)))]) [famG 100000 5 es, famR 100001 (L.map ActE.B)]) := by
               clear hG27_0
               refine hGo ?_
               refine At.bStep [9] (by kernel_rfl) (by simp) ?_
               refine At.bS true (by kernel_rfl) (S_callR (some 168) [(100, _), (101, _)] [(133, _)] [100, 101] (vs := [_, _, _]) rfl en11 rfl (ON rfl rfl (ON rfl rfl O0)) (by simp) (VN (by simp) rfl View.all V0) (by simp) (c_WriteN d hok b0 b1 n 0 (by first | omega | exact (show d.n ≤ n by omega)) (i := x.i) (A := A147) (ca := c147) (bq := b147) (q := 0) (l := ((x.B.l.take ((min x.B.l.length 64) - 0)) ++ List.replicate (max (64 - x.B.l.length) 0) 0#8)) (nl := (((x.B.l.take ((min x.B.l.length 64) - 0)) ++ List.replicate (max (64 - x.B.l.length) 0) 0#8).length)) LN (fun h => g147a (by omega))) (by rintro _ _ ⟨rfl, rfl⟩; rfl) ?_)
               rintro _ _ ⟨rfl, rfl⟩
               exact At.intoF (hGi (hG27_1 )) rfl rfl (AllL.cons_ FK2 (AllL.cons_ FK2 trivial))
              have hG27_3  : G 6 #[true, true, true, true, true, true, true, true, true, false, true, true, false, true, false, false, false, false] (frOf [(0, iV (n : Int)), (1, .slice A nr c), (7, ptr b0 0), (8, iV 0), (9, ptr bw 0), (10, iV (k : Int)), (12, ptr bc97 0), (163, iV ((d.write x.i ((x.B.l.take ((min x.B.l.length 64) - 0)) ++ List.replicate (max (64 - x.B.l.length) 0) 0#8)).2)), (164, ptr b0 0), (166, iV x.i), (167, .slice A147 (((x.B.l.take ((min x.B.l.length 64) - 0)) ++ List.replicate (max (64 - x.B.l.length) 0) 0#8).length) c147), (169, ptr bw 0), (170, ptr b11 1), (172, .slice A147 (((x.B.l.take ((min x.B.l.length 64) - 0)) ++ List.replicate (max (64 - x.B.l.length) 0) 0#8).length) c147)]) (famsOf (hOf [(0, ⟨false, b, q, 0, encs ActN L, 0⟩), (11, ⟨true, b11, 0, 40, [iV x.w, iV x.i, iV x.n, .slice x.B.A x.B.l.length x.B.c], 0⟩), (97, (DM.row ((d.write x.i ((x.B.l.take ((min x.B.l.length 64) - 0)) ++ List.replicate (max (64 - x.B.l.length) 0) 0#8)).1) true bc97 bcs97 cc97)), (100, (DM.row d true b0 b1 n)), (101, (rowS true b1 d.S 0)), (102, ⟨true, bw, 0, 46, [.slice Aw n cw, .bool d.off, iV d.till, iV (d.torn : Int), iV d.wr], 0⟩), (103, ⟨true, bS, 0, 27, (es).map BG.v, cw - n⟩), (133, ⟨true, b147, 0, 5, (((x.B.l.take ((min x.B.l.length 64) - 0)) ++ List.replicate (max (64 - x.B.l.length) 0) 0#8)).map u8V, c147 - (((x.B.l.take ((min x.B.l.length 64) - 0)) ++ List.replicate (max (64 - x.B.l.length) 0) 0#8)).length⟩), (400, pRow x.B.b x.B.q x.B.l), (1097, (rowS true bcs97 ((d.write x.i ((x.B.l.take ((min x.B.l.length 64) - 0)) ++ List.replicate (max (64 - x.B.l.length) 0) 0#8)).1).S ((cc97 - d.n) * 64)))]) [famG 100000 5 es, famR 100001 (L.map ActE.B)]) := by
               clear hG27_0
               refine hGo ?_
               refine At.bStep [9, 12] (by kernel_rfl) (by simp) ?_
               refine ⟨?_, ?_⟩
               ·
                refine At.bS true (by kernel_rfl) (S_callR (some 168) [(100, _), (101, _)] [(133, _)] [100, 101] (vs := [_, _, _]) rfl en11 rfl (ON rfl rfl (ON rfl rfl O0)) (by simp) (VN (by simp) rfl View.all V0) (by simp) (c_WriteN d hok b0 b1 n 0 (by first | omega | exact (show d.n ≤ n by omega)) (i := x.i) (A := A147) (ca := c147) (bq := b147) (q := 0) (l := ((x.B.l.take ((min x.B.l.length 64) - 0)) ++ List.replicate (max (64 - x.B.l.length) 0) 0#8)) (nl := (((x.B.l.take ((min x.B.l.length 64) - 0)) ++ List.replicate (max (64 - x.B.l.length) 0) 0#8).length)) LN (fun h => g147a (by omega))) (by rintro _ _ ⟨rfl, rfl⟩; rfl) ?_)
                rintro _ _ ⟨rfl, rfl⟩
                refine At.bQ  12 (some 171) (Q_loadO (k := 11) rfl rfl Try.underlying3 rfl rfl rfl) (by kernel_rfl) (by kernel_rfl) ?_
                exact At.intoF (hGi (hG27_1 )) rfl rfl (AllL.cons_ FK2 (AllL.cons_ FK2 trivial))
               ·
                refine At.bSQ (some 171) (Q_loadO (k := 11) rfl rfl Try.underlying3 rfl rfl rfl) ?_
                exact At.intoF (hGi (hG27_2 )) rfl rfl (AllL.cons_ FK2 (AllL.cons_ FK2 trivial))
              have hG27_4  : G 6 #[true, true, true, true, true, true, true, false, true, false, true, true, true, true, false, false, false, false] (frOf [(0, iV (n : Int)), (1, .slice A nr c), (7, ptr b0 0), (8, iV 0), (9, ptr bw 0), (10, iV (k : Int)), (12, ptr bc97 0), (163, iV ((d.write x.i ((x.B.l.take ((min x.B.l.length 64) - 0)) ++ List.replicate (max (64 - x.B.l.length) 0) 0#8)).2)), (164, ptr b0 0), (165, ptr b11 1), (167, .slice A147 (((x.B.l.take ((min x.B.l.length 64) - 0)) ++ List.replicate (max (64 - x.B.l.length) 0) 0#8).length) c147), (169, ptr bw 0), (171, iV x.i), (172, .slice A147 (((x.B.l.take ((min x.B.l.length 64) - 0)) ++ List.replicate (max (64 - x.B.l.length) 0) 0#8).length) c147)]) (famsOf (hOf [(0, ⟨false, b, q, 0, encs ActN L, 0⟩), (11, ⟨true, b11, 0, 40, [iV x.w, iV x.i, iV x.n, .slice x.B.A x.B.l.length x.B.c], 0⟩), (97, (DM.row ((d.write x.i ((x.B.l.take ((min x.B.l.length 64) - 0)) ++ List.replicate (max (64 - x.B.l.length) 0) 0#8)).1) true bc97 bcs97 cc97)), (100, (DM.row d true b0 b1 n)), (101, (rowS true b1 d.S 0)), (102, ⟨true, bw, 0, 46, [.slice Aw n cw, .bool d.off, iV d.till, iV (d.torn : Int), iV d.wr], 0⟩), (103, ⟨true, bS, 0, 27, (es).map BG.v, cw - n⟩), (133, ⟨true, b147, 0, 5, (((x.B.l.take ((min x.B.l.length 64) - 0)) ++ List.replicate (max (64 - x.B.l.length) 0) 0#8)).map u8V, c147 - (((x.B.l.take ((min x.B.l.length 64) - 0)) ++ List.replicate (max (64 - x.B.l.length) 0) 0#8)).length⟩), (400, pRow x.B.b x.B.q x.B.l), (1097, (rowS true bcs97 ((d.write x.i ((x.B.l.take ((min x.B.l.length 64) - 0)) ++ List.replicate (max (64 - x.B.l.length) 0) 0#8)).1).S ((cc97 - d.n) * 64)))]) [famG 100000 5 es, famR 100001 (L.map ActE.B)]) := by
               clear hG27_0 hG27_1 hG27_3
               refine hGo ?_
               refine At.bStep [7] (by kernel_rfl) (by simp) ?_
               refine At.bSQ (some 166) (Q_loadO (k := 11) rfl rfl Try.underlying3 rfl rfl rfl) ?_
               exact At.intoF (hGi (hG27_2 )) rfl rfl (AllL.cons_ FK2 (AllL.cons_ FK2 trivial))
              have hG27_5  : G 6 #[true, true, true, true, false, true, true, true, true, false, true, true, true, true, false, false, false, false] (frOf [(0, iV (n : Int)), (1, .slice A nr c), (7, ptr b0 0), (8, iV 0), (9, ptr bw 0), (10, iV (k : Int)), (12, ptr bc97 0), (159, ptr bc97 0), (161, iV x.i), (162, .slice A147 (((x.B.l.take ((min x.B.l.length 64) - 0)) ++ List.replicate (max (64 - x.B.l.length) 0) 0#8).length) c147), (164, ptr b0 0), (166, iV x.i), (167, .slice A147 (((x.B.l.take ((min x.B.l.length 64) - 0)) ++ List.replicate (max (64 - x.B.l.length) 0) 0#8).length) c147), (169, ptr bw 0), (171, iV x.i), (172, .slice A147 (((x.B.l.take ((min x.B.l.length 64) - 0)) ++ List.replicate (max (64 - x.B.l.length) 0) 0#8).length) c147)]) (famsOf (hOf [(0, ⟨false, b, q, 0, encs ActN L, 0⟩), (97, (DM.row d true bc97 bcs97 cc97)), (100, (DM.row d true b0 b1 n)), (101, (rowS true b1 d.S 0)), (102, ⟨true, bw, 0, 46, [.slice Aw n cw, .bool d.off, iV d.till, iV (d.torn : Int), iV d.wr], 0⟩), (103, ⟨true, bS, 0, 27, (es).map BG.v, cw - n⟩), (133, ⟨true, b147, 0, 5, (((x.B.l.take ((min x.B.l.length 64) - 0)) ++ List.replicate (max (64 - x.B.l.length) 0) 0#8)).map u8V, c147 - (((x.B.l.take ((min x.B.l.length 64) - 0)) ++ List.replicate (max (64 - x.B.l.length) 0) 0#8)).length⟩), (1097, (rowS true bcs97 d.S ((cc97 - d.n) * 64)))]) [famG 100000 5 es, famR 100001 (L.map ActE.B)]) := by
               clear hG27_0 hG27_1 hG27_3 hG27_4
               refine hGo ?_
               refine At.bStep [4] (by kernel_rfl) (by simp) ?_
               refine At.bS true (by kernel_rfl) (S_callR (some 163) [(97, _), (1097, _)] [(133, _)] [97, 1097] (vs := [_, _, _]) rfl en11 rfl (ON rfl rfl (ON rfl rfl O0)) (by simp) (VN (by simp) rfl View.all V0) (by simp) (c_WriteN d hok bc97 bcs97 cc97 ((cc97 - d.n) * 64) (by first | omega | exact (show d.n ≤ cc97 by omega)) (i := x.i) (A := A147) (ca := c147) (bq := b147) (q := 0) (l := ((x.B.l.take ((min x.B.l.length 64) - 0)) ++ List.replicate (max (64 - x.B.l.length) 0) 0#8)) (nl := (((x.B.l.take ((min x.B.l.length 64) - 0)) ++ List.replicate (max (64 - x.B.l.length) 0) 0#8).length)) LN (fun h => g147a (by omega))) (by rintro _ _ ⟨rfl, rfl⟩; rfl) ?_)
               rintro _ _ ⟨rfl, rfl⟩
               exact At.intoF (hGi (hG27_2 )) rfl rfl (AllL.cons_ FK2 (AllL.cons_ FK2 trivial))
              have hG27_6  : G 7 #[true, true, true, true, true, true, true, false, true, false, true, true, false, true, false, false, false, false] (frOf [(0, iV (n : Int)), (1, .slice A nr c), (7, ptr b0 0), (8, iV 0), (9, ptr bw 0), (10, iV (k : Int)), (12, ptr bc97 0), (163, iV ((d.write x.i ((x.B.l.take ((min x.B.l.length 64) - 0)) ++ List.replicate (max (64 - x.B.l.length) 0) 0#8)).2)), (164, ptr b0 0), (165, ptr b11 1), (167, .slice A147 (((x.B.l.take ((min x.B.l.length 64) - 0)) ++ List.replicate (max (64 - x.B.l.length) 0) 0#8).length) c147), (169, ptr bw 0), (170, ptr b11 1), (172, .slice A147 (((x.B.l.take ((min x.B.l.length 64) - 0)) ++ List.replicate (max (64 - x.B.l.length) 0) 0#8).length) c147)]) (famsOf (hOf [(0, ⟨false, b, q, 0, encs ActN L, 0⟩), (11, ⟨true, b11, 0, 40, [iV x.w, iV x.i, iV x.n, .slice x.B.A x.B.l.length x.B.c], 0⟩), (97, (DM.row ((d.write x.i ((x.B.l.take ((min x.B.l.length 64) - 0)) ++ List.replicate (max (64 - x.B.l.length) 0) 0#8)).1) true bc97 bcs97 cc97)), (100, (DM.row d true b0 b1 n)), (101, (rowS true b1 d.S 0)), (102, ⟨true, bw, 0, 46, [.slice Aw n cw, .bool d.off, iV d.till, iV (d.torn : Int), iV d.wr], 0⟩), (103, ⟨true, bS, 0, 27, (es).map BG.v, cw - n⟩), (133, ⟨true, b147, 0, 5, (((x.B.l.take ((min x.B.l.length 64) - 0)) ++ List.replicate (max (64 - x.B.l.length) 0) 0#8)).map u8V, c147 - (((x.B.l.take ((min x.B.l.length 64) - 0)) ++ List.replicate (max (64 - x.B.l.length) 0) 0#8)).length⟩), (400, pRow x.B.b x.B.q x.B.l), (1097, (rowS true bcs97 ((d.write x.i ((x.B.l.take ((min x.B.l.length 64) - 0)) ++ List.replicate (max (64 - x.B.l.length) 0) 0#8)).1).S ((cc97 - d.n) * 64)))]) [famG 100000 5 es, famR 100001 (L.map ActE.B)]) := by
               clear hG27_0 hG27_1 hG27_2 hG27_5
               refine hGo ?_
               refine At.bStep [7, 12] (by kernel_rfl) (by simp) ?_
               refine ⟨?_, ?_⟩
               ·
                refine At.bSQ (some 166) (Q_loadO (k := 11) rfl rfl Try.underlying3 rfl rfl rfl) ?_
                exact At.intoF (hGi (hG27_3 )) rfl rfl (AllL.cons_ FK2 (AllL.cons_ FK2 trivial))
               ·
                refine At.bSQ (some 171) (Q_loadO (k := 11) rfl rfl Try.underlying3 rfl rfl rfl) ?_
                exact At.intoF (hGi (hG27_4 )) rfl rfl (AllL.cons_ FK2 (AllL.cons_ FK2 trivial))
              have hG27_7  : G 7 #[true, true, true, true, false, true, true, true, true, false, true, true, false, true, false, false, false, false] (frOf [(0, iV (n : Int)), (1, .slice A nr c), (7, ptr b0 0), (8, iV 0), (9, ptr bw 0), (10, iV (k : Int)), (12, ptr bc97 0), (159, ptr bc97 0), (161, iV x.i), (162, .slice A147 (((x.B.l.take ((min x.B.l.length 64) - 0)) ++ List.replicate (max (64 - x.B.l.length) 0) 0#8).length) c147), (164, ptr b0 0), (166, iV x.i), (167, .slice A147 (((x.B.l.take ((min x.B.l.length 64) - 0)) ++ List.replicate (max (64 - x.B.l.length) 0) 0#8).length) c147), (169, ptr bw 0), (170, ptr b11 1), (172, .slice A147 (((x.B.l.take ((min x.B.l.length 64) - 0)) ++ List.replicate (max (64 - x.B.l.length) 0) 0#8).length) c147)]) (famsOf (hOf [(0, ⟨false, b, q, 0, encs ActN L, 0⟩), (11, ⟨true, b11, 0, 40, [iV x.w, iV x.i, iV x.n, .slice x.B.A x.B.l.length x.B.c], 0⟩), (97, (DM.row d true bc97 bcs97 cc97)), (100, (DM.row d true b0 b1 n)), (101, (rowS true b1 d.S 0)), (102, ⟨true, bw, 0, 46, [.slice Aw n cw, .bool d.off, iV d.till, iV (d.torn : Int), iV d.wr], 0⟩), (103, ⟨true, bS, 0, 27, (es).map BG.v, cw - n⟩), (133, ⟨true, b147, 0, 5, (((x.B.l.take ((min x.B.l.length 64) - 0)) ++ List.replicate (max (64 - x.B.l.length) 0) 0#8)).map u8V, c147 - (((x.B.l.take ((min x.B.l.length 64) - 0)) ++ List.replicate (max (64 - x.B.l.length) 0) 0#8)).length⟩), (400, pRow x.B.b x.B.q x.B.l), (1097, (rowS true bcs97 d.S ((cc97 - d.n) * 64)))]) [famG 100000 5 es, famR 100001 (L.map ActE.B)]) := by
               clear hG27_0 hG27_1 hG27_2 hG27_4 hG27_6
               refine hGo ?_
               refine At.bStep [4, 12] (by kernel_rfl) (by simp) ?_
               refine ⟨?_, ?_⟩
               ·
                refine At.bS true (by kernel_rfl) (S_callR (some 163) [(97, _), (1097, _)] [(133, _)] [97, 1097] (vs := [_, _, _]) rfl en11 rfl (ON rfl rfl (ON rfl rfl O0)) (by simp) (VN (by simp) rfl View.all V0) (by simp) (c_WriteN d hok bc97 bcs97 cc97 ((cc97 - d.n) * 64) (by first | omega | exact (show d.n ≤ cc97 by omega)) (i := x.i) (A := A147) (ca := c147) (bq := b147) (q := 0) (l := ((x.B.l.take ((min x.B.l.length 64) - 0)) ++ List.replicate (max (64 - x.B.l.length) 0) 0#8)) (nl := (((x.B.l.take ((min x.B.l.length 64) - 0)) ++ List.replicate (max (64 - x.B.l.length) 0) 0#8).length)) LN (fun h => g147a (by omega))) (by rintro _ _ ⟨rfl, rfl⟩; rfl) ?_)
                rintro _ _ ⟨rfl, rfl⟩
                exact At.intoF (hGi (hG27_3 )) rfl rfl (AllL.cons_ FK2 (AllL.cons_ FK2 trivial))
               ·
                refine At.bSQ (some 171) (Q_loadO (k := 11) rfl rfl Try.underlying3 rfl rfl rfl) ?_
                exact At.intoF (hGi (hG27_5 )) rfl rfl (AllL.cons_ FK2 (AllL.cons_ FK2 trivial))
              have hG27_8  : G 7 #[true, true, true, true, false, true, true, false, true, false, true, true, true, true, false, false, false, false] (frOf [(0, iV (n : Int)), (1, .slice A nr c), (7, ptr b0 0), (8, iV 0), (9, ptr bw 0), (10, iV (k : Int)), (12, ptr bc97 0), (159, ptr bc97 0), (161, iV x.i), (162, .slice A147 (((x.B.l.take ((min x.B.l.length 64) - 0)) ++ List.replicate (max (64 - x.B.l.length) 0) 0#8).length) c147), (164, ptr b0 0), (165, ptr b11 1), (167, .slice A147 (((x.B.l.take ((min x.B.l.length 64) - 0)) ++ List.replicate (max (64 - x.B.l.length) 0) 0#8).length) c147), (169, ptr bw 0), (171, iV x.i), (172, .slice A147 (((x.B.l.take ((min x.B.l.length 64) - 0)) ++ List.replicate (max (64 - x.B.l.length) 0) 0#8).length) c147)]) (famsOf (hOf [(0, ⟨false, b, q, 0, encs ActN L, 0⟩), (11, ⟨true, b11, 0, 40, [iV x.w, iV x.i, iV x.n, .slice x.B.A x.B.l.length x.B.c], 0⟩), (97, (DM.row d true bc97 bcs97 cc97)), (100, (DM.row d true b0 b1 n)), (101, (rowS true b1 d.S 0)), (102, ⟨true, bw, 0, 46, [.slice Aw n cw, .bool d.off, iV d.till, iV (d.torn : Int), iV d.wr], 0⟩), (103, ⟨true, bS, 0, 27, (es).map BG.v, cw - n⟩), (133, ⟨true, b147, 0, 5, (((x.B.l.take ((min x.B.l.length 64) - 0)) ++ List.replicate (max (64 - x.B.l.length) 0) 0#8)).map u8V, c147 - (((x.B.l.take ((min x.B.l.length 64) - 0)) ++ List.replicate (max (64 - x.B.l.length) 0) 0#8)).length⟩), (400, pRow x.B.b x.B.q x.B.l), (1097, (rowS true bcs97 d.S ((cc97 - d.n) * 64)))]) [famG 100000 5 es, famR 100001 (L.map ActE.B)]) := by
               clear hG27_0 hG27_1 hG27_2 hG27_3 hG27_6 hG27_7
               refine hGo ?_
               refine At.bStep [4, 7] (by kernel_rfl) (by simp) ?_
               refine ⟨?_, ?_⟩
               ·
                refine At.bS true (by kernel_rfl) (S_callR (some 163) [(97, _), (1097, _)] [(133, _)] [97, 1097] (vs := [_, _, _]) rfl en11 rfl (ON rfl rfl (ON rfl rfl O0)) (by simp) (VN (by simp) rfl View.all V0) (by simp) (c_WriteN d hok bc97 bcs97 cc97 ((cc97 - d.n) * 64) (by first | omega | exact (show d.n ≤ cc97 by omega)) (i := x.i) (A := A147) (ca := c147) (bq := b147) (q := 0) (l := ((x.B.l.take ((min x.B.l.length 64) - 0)) ++ List.replicate (max (64 - x.B.l.length) 0) 0#8)) (nl := (((x.B.l.take ((min x.B.l.length 64) - 0)) ++ List.replicate (max (64 - x.B.l.length) 0) 0#8).length)) LN (fun h => g147a (by omega))) (by rintro _ _ ⟨rfl, rfl⟩; rfl) ?_)
                rintro _ _ ⟨rfl, rfl⟩
                exact At.intoF (hGi (hG27_4 )) rfl rfl (AllL.cons_ FK2 (AllL.cons_ FK2 trivial))
               ·
                refine At.bSQ (some 166) (Q_loadO (k := 11) rfl rfl Try.underlying3 rfl rfl rfl) ?_
                exact At.intoF (hGi (hG27_5 )) rfl rfl (AllL.cons_ FK2 (AllL.cons_ FK2 trivial))
              have hG27_9  : G 7 #[true, true, false, true, false, true, true, true, true, false, true, true, true, true, false, false, false, false] (frOf [(0, iV (n : Int)), (1, .slice A nr c), (7, ptr b0 0), (8, iV 0), (9, ptr bw 0), (10, iV (k : Int)), (12, ptr bc97 0), (159, ptr bc97 0), (160, ptr b11 1), (162, .slice A147 (((x.B.l.take ((min x.B.l.length 64) - 0)) ++ List.replicate (max (64 - x.B.l.length) 0) 0#8).length) c147), (164, ptr b0 0), (166, iV x.i), (167, .slice A147 (((x.B.l.take ((min x.B.l.length 64) - 0)) ++ List.replicate (max (64 - x.B.l.length) 0) 0#8).length) c147), (169, ptr bw 0), (171, iV x.i), (172, .slice A147 (((x.B.l.take ((min x.B.l.length 64) - 0)) ++ List.replicate (max (64 - x.B.l.length) 0) 0#8).length) c147)]) (famsOf (hOf [(0, ⟨false, b, q, 0, encs ActN L, 0⟩), (11, ⟨true, b11, 0, 40, [iV x.w, iV x.i, iV x.n, .slice x.B.A x.B.l.length x.B.c], 0⟩), (97, (DM.row d true bc97 bcs97 cc97)), (100, (DM.row d true b0 b1 n)), (101, (rowS true b1 d.S 0)), (102, ⟨true, bw, 0, 46, [.slice Aw n cw, .bool d.off, iV d.till, iV (d.torn : Int), iV d.wr], 0⟩), (103, ⟨true, bS, 0, 27, (es).map BG.v, cw - n⟩), (133, ⟨true, b147, 0, 5, (((x.B.l.take ((min x.B.l.length 64) - 0)) ++ List.replicate (max (64 - x.B.l.length) 0) 0#8)).map u8V, c147 - (((x.B.l.take ((min x.B.l.length 64) - 0)) ++ List.replicate (max (64 - x.B.l.length) 0) 0#8)).length⟩), (400, pRow x.B.b x.B.q x.B.l), (1097, (rowS true bcs97 d.S ((cc97 - d.n) * 64)))]) [famG 100000 5 es, famR 100001 (L.map ActE.B)]) := by
               clear hG27_0 hG27_1 hG27_2 hG27_3 hG27_4 hG27_6 hG27_7 hG27_8
               refine hGo ?_
               refine At.bStep [2] (by kernel_rfl) (by simp) ?_
               refine At.bSQ (some 161) (Q_loadO (k := 11) rfl rfl Try.underlying3 rfl rfl rfl) ?_
               exact At.intoF (hGi (hG27_5 )) rfl rfl (AllL.cons_ FK2 (AllL.cons_ FK2 trivial))
              have hG27_10  : G 8 #[true, true, true, true, false, true, true, false, true, false, true, true, false, true, false, false, false, false] (frOf [(0, iV (n : Int)), (1, .slice A nr c), (7, ptr b0 0), (8, iV 0), (9, ptr bw 0), (10, iV (k : Int)), (12, ptr bc97 0), (159, ptr bc97 0), (161, iV x.i), (162, .slice A147 (((x.B.l.take ((min x.B.l.length 64) - 0)) ++ List.replicate (max (64 - x.B.l.length) 0) 0#8).length) c147), (164, ptr b0 0), (165, ptr b11 1), (167, .slice A147 (((x.B.l.take ((min x.B.l.length 64) - 0)) ++ List.replicate (max (64 - x.B.l.length) 0) 0#8).length) c147), (169, ptr bw 0), (170, ptr b11 1), (172, .slice A147 (((x.B.l.take ((min x.B.l.length 64) - 0)) ++ List.replicate (max (64 - x.B.l.length) 0) 0#8).length) c147)]) (famsOf (hOf [(0, ⟨false, b, q, 0, encs ActN L, 0⟩), (11, ⟨true, b11, 0, 40, [iV x.w, iV x.i, iV x.n, .slice x.B.A x.B.l.length x.B.c], 0⟩), (97, (DM.row d true bc97 bcs97 cc97)), (100, (DM.row d true b0 b1 n)), (101, (rowS true b1 d.S 0)), (102, ⟨true, bw, 0, 46, [.slice Aw n cw, .bool d.off, iV d.till, iV (d.torn : Int), iV d.wr], 0⟩), (103, ⟨true, bS, 0, 27, (es).map BG.v, cw - n⟩), (133, ⟨true, b147, 0, 5, (((x.B.l.take ((min x.B.l.length 64) - 0)) ++ List.replicate (max (64 - x.B.l.length) 0) 0#8)).map u8V, c147 - (((x.B.l.take ((min x.B.l.length 64) - 0)) ++ List.replicate (max (64 - x.B.l.length) 0) 0#8)).length⟩), (400, pRow x.B.b x.B.q x.B.l), (1097, (rowS true bcs97 d.S ((cc97 - d.n) * 64)))]) [famG 100000 5 es, famR 100001 (L.map ActE.B)]) := by
               clear hG27_0 hG27_1 hG27_2 hG27_3 hG27_4 hG27_5 hG27_9
               refine hGo ?_
               refine At.bStep [4, 7, 12] (by kernel_rfl) (by simp) ?_
               refine ⟨?_, ?_, ?_⟩
               ·
                refine At.bS true (by kernel_rfl) (S_callR (some 163) [(97, _), (1097, _)] [(133, _)] [97, 1097] (vs := [_, _, _]) rfl en11 rfl (ON rfl rfl (ON rfl rfl O0)) (by simp) (VN (by simp) rfl View.all V0) (by simp) (c_WriteN d hok bc97 bcs97 cc97 ((cc97 - d.n) * 64) (by first | omega | exact (show d.n ≤ cc97 by omega)) (i := x.i) (A := A147) (ca := c147) (bq := b147) (q := 0) (l := ((x.B.l.take ((min x.B.l.length 64) - 0)) ++ List.replicate (max (64 - x.B.l.length) 0) 0#8)) (nl := (((x.B.l.take ((min x.B.l.length 64) - 0)) ++ List.replicate (max (64 - x.B.l.length) 0) 0#8).length)) LN (fun h => g147a (by omega))) (by rintro _ _ ⟨rfl, rfl⟩; rfl) ?_)
                rintro _ _ ⟨rfl, rfl⟩
                exact At.intoF (hGi (hG27_6 )) rfl rfl (AllL.cons_ FK2 (AllL.cons_ FK2 trivial))
               ·
                refine At.bSQ (some 166) (Q_loadO (k := 11) rfl rfl Try.underlying3 rfl rfl rfl) ?_
                exact At.intoF (hGi (hG27_7 )) rfl rfl (AllL.cons_ FK2 (AllL.cons_ FK2 trivial))
               ·
                refine At.bSQ (some 171) (Q_loadO (k := 11) rfl rfl Try.underlying3 rfl rfl rfl) ?_
                exact At.intoF (hGi (hG27_8 )) rfl rfl (AllL.cons_ FK2 (AllL.cons_ FK2 trivial))
              have hG27_11  : G 8 #[true, true, false, true, false, true, true, true, true, false, true, true, false, true, false, false, false, false] (frOf [(0, iV (n : Int)), (1, .slice A nr c), (7, ptr b0 0), (8, iV 0), (9, ptr bw 0), (10, iV (k : Int)), (12, ptr bc97 0), (159, ptr bc97 0), (160, ptr b11 1), (162, .slice A147 (((x.B.l.take ((min x.B.l.length 64) - 0)) ++ List.replicate (max (64 - x.B.l.length) 0) 0#8).length) c147), (164, ptr b0 0), (166, iV x.i), (167, .slice A147 (((x.B.l.take ((min x.B.l.length 64) - 0)) ++ List.replicate (max (64 - x.B.l.length) 0) 0#8).length) c147), (169, ptr bw 0), (170, ptr b11 1), (172, .slice A147 (((x.B.l.take ((min x.B.l.length 64) - 0)) ++ List.replicate (max (64 - x.B.l.length) 0) 0#8).length) c147)]) (famsOf (hOf [(0, ⟨false, b, q, 0, encs ActN L, 0⟩), (11, ⟨true, b11, 0, 40, [iV x.w, iV x.i, iV x.n, .slice x.B.A x.B.l.length x.B.c], 0⟩), (97, (DM.row d true bc97 bcs97 cc97)), (100, (DM.row d true b0 b1 n)), (101, (rowS true b1 d.S 0)), (102, ⟨true, bw, 0, 46, [.slice Aw n cw, .bool d.off, iV d.till, iV (d.torn : Int), iV d.wr], 0⟩), (103, ⟨true, bS, 0, 27, (es).map BG.v, cw - n⟩), (133, ⟨true, b147, 0, 5, (((x.B.l.take ((min x.B.l.length 64) - 0)) ++ List.replicate (max (64 - x.B.l.length) 0) 0#8)).map u8V, c147 - (((x.B.l.take ((min x.B.l.length 64) - 0)) ++ List.replicate (max (64 - x.B.l.length) 0) 0#8)).length⟩), (400, pRow x.B.b x.B.q x.B.l), (1097, (rowS true bcs97 d.S ((cc97 - d.n) * 64)))]) [famG 100000 5 es, famR 100001 (L.map ActE.B)]) := by
               clear hG27_0 hG27_1 hG27_2 hG27_3 hG27_4 hG27_5 hG27_6 hG27_8 hG27_10
               refine hGo ?_
               refine At.bStep [2, 12] (by kernel_rfl) (by simp) ?_
               refine ⟨?_, ?_⟩
               ·
                refine At.bSQ (some 161) (Q_loadO (k := 11) rfl rfl Try.underlying3 rfl rfl rfl) ?_
                exact At.intoF (hGi (hG27_7 )) rfl rfl (AllL.cons_ FK2 (AllL.cons_ FK2 trivial))
               ·
                refine At.bSQ (some 171) (Q_loadO (k := 11) rfl rfl Try.underlying3 rfl rfl rfl) ?_
                exact At.intoF (hGi (hG27_9 )) rfl rfl (AllL.cons_ FK2 (AllL.cons_ FK2 trivial))
              have hG27_12  : G 8 #[true, true, false, true, false, true, true, false, true, false, true, true, true, true, false, false, false, false] (frOf [(0, iV (n : Int)), (1, .slice A nr c), (7, ptr b0 0), (8, iV 0), (9, ptr bw 0), (10, iV (k : Int)), (12, ptr bc97 0), (159, ptr bc97 0), (160, ptr b11 1), (162, .slice A147 (((x.B.l.take ((min x.B.l.length 64) - 0)) ++ List.replicate (max (64 - x.B.l.length) 0) 0#8).length) c147), (164, ptr b0 0), (165, ptr b11 1), (167, .slice A147 (((x.B.l.take ((min x.B.l.length 64) - 0)) ++ List.replicate (max (64 - x.B.l.length) 0) 0#8).length) c147), (169, ptr bw 0), (171, iV x.i), (172, .slice A147 (((x.B.l.take ((min x.B.l.length 64) - 0)) ++ List.replicate (max (64 - x.B.l.length) 0) 0#8).length) c147)]) (famsOf (hOf [(0, ⟨false, b, q, 0, encs ActN L, 0⟩), (11, ⟨true, b11, 0, 40, [iV x.w, iV x.i, iV x.n, .slice x.B.A x.B.l.length x.B.c], 0⟩), (97, (DM.row d true bc97 bcs97 cc97)), (100, (DM.row d true b0 b1 n)), (101, (rowS true b1 d.S 0)), (102, ⟨true, bw, 0, 46, [.slice Aw n cw, .bool d.off, iV d.till, iV (d.torn : Int), iV d.wr], 0⟩), (103, ⟨true, bS, 0, 27, (es).map BG.v, cw - n⟩), (133, ⟨true, b147, 0, 5, (((x.B.l.take ((min x.B.l.length 64) - 0)) ++ List.replicate (max (64 - x.B.l.length) 0) 0#8)).map u8V, c147 - (((x.B.l.take ((min x.B.l.length 64) - 0)) ++ List.replicate (max (64 - x.B.l.length) 0) 0#8)).length⟩), (400, pRow x.B.b x.B.q x.B.l), (1097, (rowS true bcs97 d.S ((cc97 - d.n) * 64)))]) [famG 100000 5 es, famR 100001 (L.map ActE.B)]) := by
               clear hG27_0 hG27_1 hG27_2 hG27_3 hG27_4 hG27_5 hG27_6 hG27_7 hG27_10 hG27_11
               refine hGo ?_
               refine At.bStep [2, 7] (by kernel_rfl) (by simp) ?_
               refine ⟨?_, ?_⟩
               ·
                refine At.bSQ (some 161) (Q_loadO (k := 11) rfl rfl Try.underlying3 rfl rfl rfl) ?_
                exact At.intoF (hGi (hG27_8 )) rfl rfl (AllL.cons_ FK2 (AllL.cons_ FK2 trivial))
               ·
                refine At.bSQ (some 166) (Q_loadO (k := 11) rfl rfl Try.underlying3 rfl rfl rfl) ?_
                exact At.intoF (hGi (hG27_9 )) rfl rfl (AllL.cons_ FK2 (AllL.cons_ FK2 trivial))
              have hG27_13  : G 9 #[true, true, false, true, false, true, true, false, true, false, true, true, false, true, false, false, false, false] (frOf [(0, iV (n : Int)), (1, .slice A nr c), (7, ptr b0 0), (8, iV 0), (9, ptr bw 0), (10, iV (k : Int)), (12, ptr bc97 0), (159, ptr bc97 0), (160, ptr b11 1), (162, .slice A147 (((x.B.l.take ((min x.B.l.length 64) - 0)) ++ List.replicate (max (64 - x.B.l.length) 0) 0#8).length) c147), (164, ptr b0 0), (165, ptr b11 1), (167, .slice A147 (((x.B.l.take ((min x.B.l.length 64) - 0)) ++ List.replicate (max (64 - x.B.l.length) 0) 0#8).length) c147), (169, ptr bw 0), (170, ptr b11 1), (172, .slice A147 (((x.B.l.take ((min x.B.l.length 64) - 0)) ++ List.replicate (max (64 - x.B.l.length) 0) 0#8).length) c147)]) (famsOf (hOf [(0, ⟨false, b, q, 0, encs ActN L, 0⟩), (11, ⟨true, b11, 0, 40, [iV x.w, iV x.i, iV x.n, .slice x.B.A x.B.l.length x.B.c], 0⟩), (97, (DM.row d true bc97 bcs97 cc97)), (100, (DM.row d true b0 b1 n)), (101, (rowS true b1 d.S 0)), (102, ⟨true, bw, 0, 46, [.slice Aw n cw, .bool d.off, iV d.till, iV (d.torn : Int), iV d.wr], 0⟩), (103, ⟨true, bS, 0, 27, (es).map BG.v, cw - n⟩), (133, ⟨true, b147, 0, 5, (((x.B.l.take ((min x.B.l.length 64) - 0)) ++ List.replicate (max (64 - x.B.l.length) 0) 0#8)).map u8V, c147 - (((x.B.l.take ((min x.B.l.length 64) - 0)) ++ List.replicate (max (64 - x.B.l.length) 0) 0#8)).length⟩), (400, pRow x.B.b x.B.q x.B.l), (1097, (rowS true bcs97 d.S ((cc97 - d.n) * 64)))]) [famG 100000 5 es, famR 100001 (L.map ActE.B)]) := by
               clear hG27_0 hG27_1 hG27_2 hG27_3 hG27_4 hG27_5 hG27_6 hG27_7 hG27_8 hG27_9
               refine hGo ?_
               refine At.bStep [2, 7, 12] (by kernel_rfl) (by simp) ?_
               refine ⟨?_, ?_, ?_⟩
               ·
                refine At.bSQ (some 161) (Q_loadO (k := 11) rfl rfl Try.underlying3 rfl rfl rfl) ?_
                exact At.intoF (hGi (hG27_10 )) rfl rfl (AllL.cons_ FK2 (AllL.cons_ FK2 trivial))
               ·
                refine At.bSQ (some 166) (Q_loadO (k := 11) rfl rfl Try.underlying3 rfl rfl rfl) ?_
                exact At.intoF (hGi (hG27_11 )) rfl rfl (AllL.cons_ FK2 (AllL.cons_ FK2 trivial))
               ·
                refine At.bSQ (some 171) (Q_loadO (k := 11) rfl rfl Try.underlying3 rfl rfl rfl) ?_
                exact At.intoF (hGi (hG27_12 )) rfl rfl (AllL.cons_ FK2 (AllL.cons_ FK2 trivial))
              clear hG27_0 hG27_1 hG27_2 hG27_3 hG27_4 hG27_5 hG27_6 hG27_7 hG27_8 hG27_9 hG27_10 hG27_11 hG27_12
              refine hGo ?_
              refine At.bP  0 (some 159) (P_move rfl rfl) (by kernel_rfl) (by kernel_rfl) ?_
              refine At.bP  1 (some 160) (P_fieldAddr0 (off := 1) rfl Try.underlying40 rfl sz3 rfl rfl) (by kernel_rfl) (by kernel_rfl) ?_
              refine At.bP  3 (some 162) (P_move rfl rfl) (by kernel_rfl) (by kernel_rfl) ?_
              refine At.bP  5 (some 164) (P_move rfl rfl) (by kernel_rfl) (by kernel_rfl) ?_
              refine At.bP  6 (some 165) (P_fieldAddr0 (off := 1) rfl Try.underlying40 rfl sz3 rfl rfl) (by kernel_rfl) (by kernel_rfl) ?_
              refine At.bP  8 (some 167) (P_move rfl rfl) (by kernel_rfl) (by kernel_rfl) ?_
              refine At.bP  10 (some 169) (P_move rfl rfl) (by kernel_rfl) (by kernel_rfl) ?_
              refine At.bP  11 (some 170) (P_fieldAddr0 (off := 1) rfl Try.underlying40 rfl sz3 rfl rfl) (by kernel_rfl) (by kernel_rfl) ?_
              refine At.bP  13 (some 172) (P_move rfl rfl) (by kernel_rfl) (by kernel_rfl) ?_
              exact At.intoF (hGi (hG27_13 )) rfl rfl (AllL.cons_ FK2 (AllL.cons_ FK2 trivial))
             ·
              rintro fr H ⟨rfl, rfl, -⟩
              refine At.next ?_
              refine At.toM [(0, _), (1, _), (7, _), (8, _), (9, _), (10, _), (12, _), (18, _), (19, _), (20, iV ((d.write x.i ((x.B.l.take ((min x.B.l.length 64) - 0)) ++ List.replicate (max (64 - x.B.l.length) 0) 0#8)).2))] [(0, _), (97, _), (100, _), (101, _), (102, _), (103, _), (1097, _)] [famG 100000 5 es, famR 100001 (L.map ActE.B)] (AllL.cons_ (rfl) (AllL.cons_ (rfl) (AllL.cons_ (rfl) (AllL.cons_ (rfl) (AllL.cons_ (rfl) (AllL.cons_ (rfl) (AllL.cons_ (rfl) (AllL.cons_ (rfl) (AllL.cons_ (rfl) (AllL.cons_ ((by rw [hz2, hdn]; rfl)) trivial)))))))))) (AllL.cons_ (rfl) (AllL.cons_ (rfl) (AllL.cons_ (rfl) (AllL.cons_ (rfl) (AllL.cons_ (rfl) (AllL.cons_ (rfl) (AllL.cons_ (rfl) trivial))))))) (AllL.cons_ FK2 (AllL.cons_ FK2 trivial)) ?_
              exact hKj6 _ _ ⟨(d.write x.i ((x.B.l.take ((min x.B.l.length 64) - 0)) ++ List.replicate (max (64 - x.B.l.length) 0) 0#8)).1, (d.write x.i ((x.B.l.take ((min x.B.l.length 64) - 0)) ++ List.replicate (max (64 - x.B.l.length) 0) 0#8)).2, es, rfl, rfl, (DM.write_ok hok (by omega)), (DM.write_n.trans hdn), (by have := DM.write_wr (d := d) (i := x.i) (l := ((x.B.l.take ((min x.B.l.length 64) - 0)) ++ List.replicate (max (64 - x.B.l.length) 0) 0#8)); omega), (by rw [hz1]; exact hs), hes⟩
           ·
            rintro fr H ⟨d1, e1, es1, rfl, rfl, hok1, hdn1, hwr1, hs1, hes1⟩
            refine At.seq ?_
            refine At.seq ?_
            refine At.region ?_
            refine At.p (some 174) (P_move rfl rfl) ?_
            refine At.p (some 175) (P_move rfl rfl) ?_
            refine At.p (some 176) (P_cmp rfl rfl rfl rfl rfl rfl) ?_
            refine At.p (some 177) (P_move rfl rfl) ?_
            refine At.gy (t := 177) rfl (by simp) rfl rfl ?_
            refine At.p (some 178) (P_move rfl rfl) ?_
            refine At.gy (t := 177) rfl (by simp) rfl rfl ?_
            refine At.p (some 179) (P_move rfl rfl) ?_
            refine At.gy (t := 177) rfl (by simp) rfl rfl ?_
            refine At.p (some 180) (P_cmp rfl rfl rfl rfl rfl rfl) ?_
            refine At.p (some 181) (P_pick_f rfl rfl (by simp) rfl) ?_
            refine At.p (some 182) (P_move rfl rfl) ?_
            refine At.gy (t := 182) rfl (by simp) rfl rfl ?_
            refine At.p (some 183) (P_move rfl rfl) ?_
            refine At.gy (t := 182) rfl (by simp) rfl rfl ?_
            refine At.s (S_callV (some 184) [(97, _)] [] (vs := [_]) rfl en17 rfl (VN (by simp) rfl View.all V0) (by simp) (c_On d1 bc97 bcs97 cc97) (by rintro _ _ ⟨rfl, rfl⟩; rfl) ?_)
            rintro _ _ ⟨rfl, rfl⟩
            refine At.gy (t := 182) rfl (by simp) rfl rfl ?_
            refine At.p (some 185) (P_move rfl rfl) ?_
            refine At.gy (t := 182) rfl (by simp) rfl rfl ?_
            refine At.s (S_callV (some 186) [(100, _)] [] (vs := [_]) rfl en17 rfl (VN (by simp) rfl View.all V0) (by simp) (c_On d1 b0 b1 n) (by rintro _ _ ⟨rfl, rfl⟩; rfl) ?_)
            rintro _ _ ⟨rfl, rfl⟩
            refine At.gy (t := 182) rfl (by simp) rfl rfl ?_
            refine At.p (some 187) (P_neq_bool rfl Try.underlying4 rfl rfl) ?_
            refine At.p (some 188) (P_pick_f rfl rfl (by simp) rfl) ?_
            refine At.nil ?_
            refine At.next ?_
            refine At.cond rfl (fun h188 => by simp at h188) (fun h188 => ?_)
            refine At.skip ?_
            refine At.next ?_
            refine At.seq ?_
            refine At.region ?_
            refine At.p (some 189) (P_move rfl rfl) ?_
            refine At.s (S_callR (some 190) [(97, _), (1097, _)] [] [97, 1097] (vs := [_]) rfl en12 rfl (ON rfl rfl (ON rfl rfl O0)) (by simp) V0 (by simp) (c_Up d1 bc97 bcs97 cc97 ((cc97 - d.n) * 64) ) (by rintro _ _ ⟨rfl, rfl⟩; rfl) ?_)
            rintro _ _ ⟨rfl, rfl⟩
            refine At.nil ?_
            refine At.next ?_
            refine At.region ?_
            refine At.p (some 191) (P_move rfl rfl) ?_
            refine At.s (S_makeN (some 192) 192 (n := 64) (cs := ((List.replicate 64 0#8)).map u8V) rfl Try.underlying27 sz5 by5 ze5 rfl rfl (by omega) (by omega) (by omega) (by omega) ((made_one (n := 64) (by omega)).trans (by rw [List.map_replicate]; rfl)) (fun b192 => ?_))
            refine At.s (S_callR (some 193) [(97, _), (1097, _)] [(192, _)] [97, 1097] (vs := [_, _, _]) rfl en11 rfl (ON rfl rfl (ON rfl rfl O0)) (by simp) (VN (by simp) rfl View.all V0) (by simp) (c_WriteN d1.up (DM.up_ok hok1) bc97 bcs97 cc97 ((cc97 - d.n) * 64) (by first | omega | exact (show d1.n ≤ cc97 by omega)) (i := 0) (A := (some ⟨b192, 0, none⟩)) (ca := 64) (bq := b192) (q := 0) (l := (List.replicate 64 0#8)) (nl := 64) LN (fun _ => rfl)) (by rintro _ _ ⟨rfl, rfl⟩; rfl) ?_)
            rintro _ _ ⟨rfl, rfl⟩
            refine At.nil ?_
            refine At.inb_n ?_
            refine At.next ?_
            refine At.toM [(0, _), (1, _), (7, _), (8, _), (9, _), (10, _)] [(0, _), (100, _), (101, _), (102, _), (103, _)] [famG 100000 5 es1, famR 100001 (L.map ActE.B)] (AllL.cons_ (rfl) (AllL.cons_ (rfl) (AllL.cons_ (rfl) (AllL.cons_ (rfl) (AllL.cons_ (rfl) (AllL.cons_ (rfl) trivial)))))) (AllL.cons_ (rfl) (AllL.cons_ (rfl) (AllL.cons_ (rfl) (AllL.cons_ (rfl) (AllL.cons_ (rfl) trivial))))) (AllL.cons_ FK2 (AllL.cons_ FK2 trivial)) ?_
            exact hKj1 _ _ ⟨d1, es1, rfl, rfl, hok1, hdn1, hwr1, hs1, hes1⟩
        · -- cond 129 f
         have e129 : bb = false := h129
         refine At.seq ?_
         refine At.region ?_
         refine At.p (some 195) (P_cmp rfl rfl rfl rfl rfl rfl) ?_
         refine At.p (some 194) (P_assign rfl rfl) ?_
         refine At.nil ?_
         refine At.next ?_
         refine At.cond rfl (fun h194 => ?_) (fun h194 => ?_)
         · -- cond 194 t
          have e194 : (k102 : Int) = 4 := eq_of_beq h194
          refine At.seq ?_
          refine At.region ?_
          refine At.p (some 196) (P_move rfl rfl) ?_
          refine At.p (some 197) (P_fieldAddr0 (off := 1) rfl Try.underlying40 rfl sz3 rfl rfl) ?_
          refine At.q (some 198) (Q_loadO (k := 11) rfl rfl Try.underlying3 rfl rfl rfl) ?_
          refine At.p (some 199) (P_fieldAddr0 (off := 2) rfl Try.underlying40 rfl sz3 rfl rfl) ?_
          refine At.q (some 200) (Q_loadO (k := 11) rfl rfl Try.underlying3 rfl rfl rfl) ?_
          refine At.s (S_callR (some 201) [(100, _), (101, _)] [] [100, 101] (vs := [_, _, _]) rfl en10 rfl (ON rfl rfl (ON rfl rfl O0)) (by simp) V0 (by simp) (c_Fail d b0 b1 n 0 x.i x.n) (by rintro _ _ ⟨rfl, rfl⟩; rfl) ?_)
          rintro _ _ ⟨rfl, rfl⟩
          refine At.nil ?_
          refine At.next ?_
          refine At.region ?_
          refine At.p (some 202) (P_move rfl rfl) ?_
          refine At.p (some 203) (P_fieldAddr0 (off := 1) rfl Try.underlying40 rfl sz3 rfl rfl) ?_
          refine At.q (some 204) (Q_loadO (k := 11) rfl rfl Try.underlying3 rfl rfl rfl) ?_
          refine At.p (some 205) (P_fieldAddr0 (off := 2) rfl Try.underlying40 rfl sz3 rfl rfl) ?_
          refine At.q (some 206) (Q_loadO (k := 11) rfl rfl Try.underlying3 rfl rfl rfl) ?_
          refine At.s (S_callR (some 207) [(102, _), (103, _)] [] [102, 103] (vs := [_, _, _]) rfl en23 rfl (ON rfl rfl (ON rfl rfl O0)) (by simp) V0 (by simp) (r_Fail (bw := bw) (bS := bS) (cw := cw) (torn := d.torn) (m := n) (off := d.off) (till := d.till) (wr := d.wr) (es := es) (Aw := Aw) (i := x.i) (j := x.n) hAw hcw (by first | assumption | omega)) (by rintro _ _ ⟨rfl, rfl⟩; rfl) ?_)
          rintro _ _ ⟨rfl, rfl⟩
          refine At.nil ?_
          refine At.inb_n ?_
          refine At.next ?_
          refine At.toM [(0, _), (1, _), (7, _), (8, _), (9, _), (10, _)] [(0, _), (100, _), (101, _), (102, _), (103, _)] [famG 100000 5 es, famR 100001 (L.map ActE.B)] (AllL.cons_ (rfl) (AllL.cons_ (rfl) (AllL.cons_ (rfl) (AllL.cons_ (rfl) (AllL.cons_ (rfl) (AllL.cons_ (rfl) trivial)))))) (AllL.cons_ (rfl) (AllL.cons_ (rfl) (AllL.cons_ (rfl) (AllL.cons_ (rfl) (AllL.cons_ (rfl) trivial))))) (AllL.cons_ FK2 (AllL.cons_ FK2 trivial)) ?_
          exact hKj1 _ _ ⟨(d.fail x.i x.n), es, rfl, rfl, (DM.fail_ok hok (by omega)), hdn, (by show d.wr ≤ _; omega), hs, hes⟩
         · -- cond 194 f
          have e194 : (k102 : Int) ≠ 4 := beq_eq_false_iff_ne.1 h194
          refine At.seq ?_
          refine At.region ?_
          refine At.p (some 209) (P_cmp rfl rfl rfl rfl rfl rfl) ?_
          refine At.p (some 208) (P_assign rfl rfl) ?_
          refine At.nil ?_
          refine At.next ?_
          refine At.cond rfl (fun h208 => ?_) (fun h208 => ?_)
          · -- cond 208 t
           have e208 : (k102 : Int) = 5 := eq_of_beq h208
           refine At.seq ?_
           refine At.region ?_
           refine At.p (some 210) (P_move rfl rfl) ?_
           refine At.s (S_callR (some 211) [(100, _), (101, _)] [] [100, 101] (vs := [_]) rfl en12 rfl (ON rfl rfl (ON rfl rfl O0)) (by simp) V0 (by simp) (c_Up d b0 b1 n 0 ) (by rintro _ _ ⟨rfl, rfl⟩; rfl) ?_)
           rintro _ _ ⟨rfl, rfl⟩
           refine At.nil ?_
           refine At.next ?_
           refine At.region ?_
           refine At.p (some 212) (P_move rfl rfl) ?_
           refine At.s (S_callR (some 213) [(102, _), (103, _)] [] [102, 103] (vs := [_]) rfl en24 rfl (ON rfl rfl (ON rfl rfl O0)) (by simp) V0 (by simp) (r_Up (bw := bw) (bS := bS) (cw := cw) (torn := d.torn) (m := n) (off := d.off) (till := d.till) (wr := d.wr) (es := es) (Aw := Aw) hAw hcw (by first | assumption | omega)) (by rintro _ _ ⟨rfl, rfl⟩; rfl) ?_)
           rintro _ _ ⟨rfl, rfl⟩
           refine At.nil ?_
           refine At.inb_n ?_
           refine At.next ?_
           refine At.toM [(0, _), (1, _), (7, _), (8, _), (9, _), (10, _)] [(0, _), (100, _), (101, _), (102, _), (103, _)] [famG 100000 5 es, famR 100001 (L.map ActE.B)] (AllL.cons_ (rfl) (AllL.cons_ (rfl) (AllL.cons_ (rfl) (AllL.cons_ (rfl) (AllL.cons_ (rfl) (AllL.cons_ (rfl) trivial)))))) (AllL.cons_ (rfl) (AllL.cons_ (rfl) (AllL.cons_ (rfl) (AllL.cons_ (rfl) (AllL.cons_ (rfl) trivial))))) (AllL.cons_ FK2 (AllL.cons_ FK2 trivial)) ?_
           exact hKj1 _ _ ⟨d.up, es, rfl, rfl, (DM.up_ok hok), hdn, (by show d.wr ≤ _; omega), hs, hes⟩
          · -- cond 208 f
           have e208 : (k102 : Int) ≠ 5 := beq_eq_false_iff_ne.1 h208
           refine At.skip ?_
           refine At.inb_n ?_
           refine At.next ?_
           refine At.toM [(0, _), (1, _), (7, _), (8, _), (9, _), (10, _)] [(0, _), (100, _), (101, _), (102, _), (103, _)] [famG 100000 5 es, famR 100001 (L.map ActE.B)] (AllL.cons_ (rfl) (AllL.cons_ (rfl) (AllL.cons_ (rfl) (AllL.cons_ (rfl) (AllL.cons_ (rfl) (AllL.cons_ (rfl) trivial)))))) (AllL.cons_ (rfl) (AllL.cons_ (rfl) (AllL.cons_ (rfl) (AllL.cons_ (rfl) (AllL.cons_ (rfl) trivial))))) (AllL.cons_ FK2 (AllL.cons_ FK2 trivial)) ?_
           exact hKj1 _ _ ⟨d, es, rfl, rfl, hok, hdn, (by omega), hs, hes⟩
     ·
      rintro fr H ⟨d2, es2, rfl, rfl, hok2, hdn2, hwr2, hs2, hes2⟩
      refine At.seq ?_
      refine At.draws 20 [] [.q false [0, 1, 2, 3, 4, 5, 6, 7, 8, 9, 10, 11, 12, 13, 14, 15, 16, 17, 18, 19]] (by kernel_rfl) (by kernel_rfl) ?_
      refine At.wp (some 214) (P_move rfl rfl) ?_
      refine At.wcV (some 215) [(100, _)] (vs := [_]) rfl en17 rfl (VN (by simp) rfl View.all V0) (c_On d2 b0 b1 n) ?_
      refine At.wp (some 216) (P_move rfl rfl) ?_
      refine At.wp (some 217) (P_nilCheck rfl rfl) ?_
      refine At.wp (some 218) (P_fieldAddr0 (off := 1) rfl Try.underlying46 rfl sz4 rfl rfl) ?_
      refine At.wq (some 219) (Q_loadO (k := 102) rfl rfl Try.underlying4 rfl rfl rfl) ?_
      refine At.wp (some 220) (P_eql_bool rfl Try.underlying4 rfl rfl) ?_
      refine At.wp (some 221) (P_move rfl rfl) ?_
      refine At.wgy (some 222) (t := 221) rfl (by cases d2.off <;> rfl) rfl rfl (P_move rfl rfl) ?_
      refine At.wcVg (some 223) [(100, _)] (tt := 221) rfl (by cases d2.off <;> rfl) rfl rfl (vs := [_]) rfl en15 rfl (VN (by simp) rfl View.all V0) (c_Writes d2 b0 b1 n) ?_
      refine At.wgy (some 224) (t := 221) rfl (by cases d2.off <;> rfl) rfl rfl (P_move rfl rfl) ?_
      refine At.wgy (some 225) (t := 221) rfl (by cases d2.off <;> rfl) rfl rfl (P_nilCheck rfl rfl) ?_
      refine At.wgy (some 226) (t := 221) rfl (by cases d2.off <;> rfl) rfl rfl (P_fieldAddr0 (off := 4) rfl Try.underlying46 rfl sz3 rfl rfl) ?_
      refine At.wgyq (some 227) (t := 221) rfl (by cases d2.off <;> rfl) rfl rfl (Q_loadO (k := 102) rfl rfl Try.underlying3 rfl rfl rfl) ?_
      refine At.wgy (some 228) (t := 221) rfl (by cases d2.off <;> rfl) rfl rfl (P_cmp rfl rfl rfl rfl rfl rfl) ?_
      refine At.wp (some 229) (P_pick_f rfl rfl (by cases d2.off <;> rfl) rfl) ?_
      refine At.wp (some 230) (P_move rfl rfl) ?_
      refine At.wgy (some 231) (t := 230) rfl (by simp) rfl rfl (P_move rfl rfl) ?_
      refine At.wcVg (some 232) [(100, _)] (tt := 230) rfl (by simp) rfl rfl (vs := [_]) rfl en18 rfl (VN (by simp) rfl View.all V0) (c_Size d2 b0 b1 n) ?_
      refine At.wgy (some 233) (t := 230) rfl (by simp) rfl rfl (P_move rfl rfl) ?_
      refine At.wqn ?_
      refine At.wt rfl ?_
      refine At.gy (t := 230) rfl (by simp) rfl rfl ?_
      refine At.p (some 234) (P_cmp rfl rfl rfl rfl rfl rfl) ?_
      refine At.p (some 235) (P_pick_f rfl rfl (by simp) rfl) ?_
      refine At.nil ?_
      refine At.next ?_
      refine At.cond rfl (fun h235 => by simp [hdn2] at h235) (fun h235 => ?_)
      have e235 : (d2.n : Int) = (n : Int) := bne_eq_false_iff_eq.1 h235
      refine At.skip ?_
      refine At.inb_n ?_
      refine At.next ?_
      refine At.region ?_
      refine At.p (some 90) (P_move rfl rfl) ?_
      refine At.p (some 91) (P_add_i rfl rfl rfl (by omega)) ?_
      refine At.p (some 10) (P_assign rfl rfl) ?_
      refine At.nil ?_
      refine At.next ?_
      refine At.toM [(0, _), (1, _), (7, _), (8, _), (9, _), (10, _)] [(0, _), (100, _), (101, _), (102, _), (103, _)] [famG 100000 5 es2, famR 100001 (L.map ActE.B)] (AllL.cons_ (rfl) (AllL.cons_ (rfl) (AllL.cons_ (rfl) (AllL.cons_ (rfl) (AllL.cons_ (rfl) (AllL.cons_ (rfl) trivial)))))) (AllL.cons_ (rfl) (AllL.cons_ (rfl) (AllL.cons_ (rfl) (AllL.cons_ (rfl) (AllL.cons_ (rfl) trivial))))) (AllL.cons_ FK2 (AllL.cons_ FK2 trivial)) ?_
      exact hKc0 _ _ _ (by omega) ⟨(k + 1), d2, es2, rfl, rfl, rfl, (by omega), hok2, hdn2, (by omega), hs2, hes2⟩
    · -- cond 89 f
     have e89 : ¬ (k : Int) < 50 := of_decide_eq_false h89
     refine At.exit ?_
     refine At.thn_e ?_
     refine At.thn_e ?_
     refine At.inb_hit ?_
     refine At.next ?_
     refine At.seq ?_
     refine At.region ?_
     refine At.p (some 236) (P_move rfl rfl) ?_
     refine At.s (S_callR (some 237) [(100, _), (101, _)] [] [100, 101] (vs := [_]) rfl en12 rfl (ON rfl rfl (ON rfl rfl O0)) (by simp) V0 (by simp) (c_Up d b0 b1 n 0 ) (by rintro _ _ ⟨rfl, rfl⟩; rfl) ?_)
     rintro _ _ ⟨rfl, rfl⟩
     refine At.nil ?_
     refine At.next ?_
     refine At.seq ?_
     refine At.seq ?_
     refine At.region ?_
     refine At.p (some 21) (P_assign rfl rfl) ?_
     refine At.nil ?_
     refine At.next ?_
     refine At.block ?_
     refine At.loopx (I := fun m fr H => ∃ (j : Nat), m = n - j ∧ fr = frOf [(0, iV (n : Int)), (1, .slice A nr c), (7, ptr b0 0), (8, iV 0), (9, ptr bw 0), (10, iV (k : Int)), (21, iV (j : Int)), (82, iV (k : Int)), (83, .slice A nr c), (84, iV (nr : Int)), (85, .bool (decide ((k : Int) < (nr : Int)))), (86, .bool (decide ((k : Int) < (nr : Int)))), (87, iV (k : Int)), (88, .bool (decide ((k : Int) < 50))), (89, .bool (decide ((k : Int) < 50))), (236, ptr b0 0)] ∧ H = famsOf (hOf [(0, ⟨false, b, q, 0, encs ActN L, 0⟩), (100, (DM.row d.up true b0 b1 n)), (101, (rowS true b1 d.up.S 0)), (102, ⟨true, bw, 0, 46, [.slice Aw n cw, .bool d.off, iV d.till, iV (d.torn : Int), iV d.wr], 0⟩), (103, ⟨true, bS, 0, 27, (es).map BG.v, cw - n⟩)]) [famG 100000 5 es, famR 100001 (L.map ActE.B)] ∧ (j ≤ n)) ?_ ?_
     ·
      intro Kc1 hKc1
      refine At.toM [(0, _), (1, _), (7, _), (8, _), (9, _), (10, _), (21, _), (82, _), (83, _), (84, _), (85, _), (86, _), (87, _), (88, _), (89, _), (236, _)] [(0, _), (100, _), (101, _), (102, _), (103, _)] [famG 100000 5 es, famR 100001 (L.map ActE.B)] (AllL.cons_ (rfl) (AllL.cons_ (rfl) (AllL.cons_ (rfl) (AllL.cons_ (rfl) (AllL.cons_ (rfl) (AllL.cons_ (rfl) (AllL.cons_ (rfl) (AllL.cons_ (rfl) (AllL.cons_ (rfl) (AllL.cons_ (rfl) (AllL.cons_ (rfl) (AllL.cons_ (rfl) (AllL.cons_ (rfl) (AllL.cons_ (rfl) (AllL.cons_ (rfl) (AllL.cons_ (rfl) trivial)))))))))))))))) (AllL.cons_ (rfl) (AllL.cons_ (rfl) (AllL.cons_ (rfl) (AllL.cons_ (rfl) (AllL.cons_ (rfl) trivial))))) (AllL.cons_ FK2 (AllL.cons_ FK2 trivial)) ?_
      exact hKc1 _ _ _ ⟨0, rfl, rfl, rfl, (by omega)⟩
     ·
      rintro m fr H ⟨j, rfl, rfl, rfl, hj⟩ Kc1 hKc1
      refine At.seq ?_
      refine At.seq ?_
      have hesn : es.length = n := hs.1.trans hdn
      refine At.region ?_
      refine At.p (some 238) (P_move rfl rfl) ?_
      refine At.p (some 239) (P_move rfl rfl) ?_
      refine At.p (some 240) (P_cmp rfl rfl rfl rfl rfl rfl) ?_
      refine At.nil ?_
      refine At.next ?_
      refine At.cond rfl (fun h240 => ?_) (fun h240 => ?_)
      · -- cond 240 t
       have e240 : (j : Int) < (n : Int) := of_decide_eq_true h240
       refine At.skip ?_
       refine At.next ?_
       refine At.seq ?_
       refine At.block ?_
       refine At.seq ?_
       refine At.region ?_
       refine At.p (some 244) (P_move rfl rfl) ?_
       refine At.p (some 245) (P_move rfl rfl) ?_
       refine At.s (S_callV (some 246) [(100, _), (101, _)] [246] (vs := [_, _]) rfl en13 rfl (VN (by simp) rfl View.all (VN (by simp) rfl View.all V0)) (by simp) (c_Read d.up (DM.up_ok hok) b0 b1 n 0 (by first | omega | exact (show d.n ≤ n by omega)) (j : Int) 0 (d.up.sector j) (up_read (by omega))) (by rintro _ _ ⟨A246, b246, c246, g246a, g246b, rfl, rfl⟩; rfl) ?_)
       rintro _ _ ⟨A246, b246, c246, g246a, g246b, rfl, rfl⟩
       refine At.p (some 243) (P_move rfl rfl) ?_
       refine At.p (some 247) (P_extract rfl rfl rfl) ?_
       refine At.p (some 248) (P_extract rfl rfl rfl) ?_
       refine At.p (some 22) (P_assign rfl rfl) ?_
       refine At.p (some 23) (P_assign rfl rfl) ?_
       refine At.nil ?_
       refine At.next ?_
       refine At.seq ?_
       refine At.draws 13 [] [.q false [0, 1, 2, 3, 4, 5, 6, 7, 8, 9, 10, 11, 12]] (by kernel_rfl) (by kernel_rfl) ?_
       refine At.wp (some 249) (P_move rfl rfl) ?_
       refine At.wp (some 250) (P_cmp rfl rfl rfl rfl rfl rfl) ?_
       refine At.wp (some 251) (P_move rfl rfl) ?_
       refine At.wgy (some 252) (t := 251) rfl rfl rfl rfl (P_move rfl rfl) ?_
       refine At.wgyq (some 253) (t := 251) rfl rfl rfl rfl (Q_strA (l := (d.up.sector j)) (n := ((d.up.sector j).length)) (k := 246) LN rfl Try.underlying27 Try.underlying5 Try.underlying9 rfl (fun h => g246a (by omega)) (fun _ => ⟨rfl, rfl, rfl⟩)) ?_
       refine At.wgy (some 254) (t := 251) rfl rfl rfl rfl (P_move rfl rfl) ?_
       refine At.wgy (some 255) (t := 251) rfl rfl rfl rfl (P_nilCheck rfl rfl) ?_
       refine At.wgy (some 256) (t := 251) rfl rfl rfl rfl (P_fieldAddr0 (off := 0) rfl Try.underlying46 rfl sz44 rfl rfl) ?_
       refine At.wgyq (some 257) (t := 251) rfl rfl rfl rfl (Q_loadO (k := 102) rfl rfl Try.underlying44 rfl rfl rfl) ?_
       refine At.wgy (some 258) (t := 251) rfl rfl rfl rfl (P_move rfl rfl) ?_
       refine At.wgy (some 259) (t := 251) rfl rfl rfl rfl (P_indexAddr_slz (b := bS) (j := j) rfl Try.underlying44 sz27 rfl ((fun h => hAw (by omega)) OG) rfl RO OG) ?_
       have hok260 : BG.ok (es.getD j default) := hes _ (getDG_mem OG)
       refine At.wgyq (some 260) (t := 251) rfl rfl rfl rfl (Q_loadM (k := 103) (f := BG.v) (l := es) ((default : BG)) rfl rfl Try.underlying27 rfl rfl OG) ?_
       refine At.wgyq (some 261) (t := 251) rfl rfl rfl rfl (Q_strG 100000 j FK2 (by omega) hes rfl Try.underlying27 Try.underlying5 Try.underlying9 rfl) ?_
       refine At.wqn ?_
       refine At.wt rfl ?_
       refine At.gy (t := 251) rfl rfl rfl rfl ?_
       refine At.p (some 262) (P_neq_str (a := (d.up.sector j)) (b := ((es.getD j default).l)) rfl rfl rfl) ?_
       refine At.p (some 263) (P_pick_f rfl rfl rfl rfl) ?_
       refine At.nil ?_
       refine At.next ?_
       refine At.cond rfl (fun h263 => by rw [up_sec hs (by omega)] at h263; simp at h263) (fun h263 => ?_)
       have e263 : (d.up.sector j) = ((es.getD j default).l) := (by first | (simp; done) | simpa using h263)
       refine At.skip ?_
       refine At.inb_n ?_
       refine At.next ?_
       refine At.region ?_
       refine At.p (some 241) (P_move rfl rfl) ?_
       refine At.p (some 242) (P_add_i rfl rfl rfl (by omega)) ?_
       refine At.p (some 21) (P_assign rfl rfl) ?_
       refine At.nil ?_
       refine At.next ?_
       refine At.toM [(0, _), (1, _), (7, _), (8, _), (9, _), (10, _), (21, _), (82, _), (83, _), (84, _), (85, _), (86, _), (87, _), (88, _), (89, _), (236, _)] [(0, _), (100, _), (101, _), (102, _), (103, _)] [famG 100000 5 es, famR 100001 (L.map ActE.B)] (AllL.cons_ (rfl) (AllL.cons_ (rfl) (AllL.cons_ (rfl) (AllL.cons_ (rfl) (AllL.cons_ (rfl) (AllL.cons_ (rfl) (AllL.cons_ (rfl) (AllL.cons_ (rfl) (AllL.cons_ (rfl) (AllL.cons_ (rfl) (AllL.cons_ (rfl) (AllL.cons_ (rfl) (AllL.cons_ (rfl) (AllL.cons_ (rfl) (AllL.cons_ (rfl) (AllL.cons_ (rfl) trivial)))))))))))))))) (AllL.cons_ (rfl) (AllL.cons_ (rfl) (AllL.cons_ (rfl) (AllL.cons_ (rfl) (AllL.cons_ (rfl) trivial))))) (AllL.cons_ FK2 (AllL.cons_ FK2 trivial)) ?_
       exact hKc1 _ _ _ (by omega) ⟨j + 1, rfl, rfl, rfl, (by omega)⟩
      · -- cond 240 f
       have e240 : ¬ (j : Int) < (n : Int) := of_decide_eq_false h240
       refine At.exit ?_
       refine At.thn_e ?_
       refine At.thn_e ?_
       refine At.inb_hit ?_
       refine At.next ?_
       refine At.seq ?_
       refine At.region ?_
       refine At.p (some 264) (P_move rfl rfl) ?_
       refine At.p (some 265) (P_cmp rfl rfl rfl rfl rfl rfl) ?_
       refine At.p (some 4) (P_assign rfl rfl) ?_
       refine At.nil ?_
       refine At.next ?_
       refine At.ret ?_
       have hq0 : (0 == 0) = true := (by first | rfl | decide | (simp; done))
       refine At.give (.inl rfl) [] (rows' := []) (vs := [_]) rfl ⟨rfl, trivial⟩ rfl (by simp) (by simp) ⟨(by first | (rw [hq0]; try rfl; done) | (rw [← hq0]; try rfl; done) | (simp only [hq0]; try rfl; done) | (simp only [← hq0]; try rfl; done) | rfl), (by first | (rw [hq0]; try rfl; done) | (rw [← hq0]; try rfl; done) | (simp only [hq0]; try rfl; done) | (simp only [← hq0]; try rfl; done) | rfl)⟩
   ·
    have eg2 : ¬ (k : Int) < (nr : Int) := of_decide_eq_false g2
    refine At.gn (some 87) (t := 86) rfl g2 rfl rfl ?_
    refine At.gn (some 88) (t := 86) rfl g2 rfl rfl ?_
    refine At.p (some 89) (P_pick_f rfl rfl g2 rfl) ?_
    refine At.nil ?_
    refine At.next ?_
    refine At.cond rfl (fun h => absurd (h.symm.trans rfl) (by decide)) (fun _ => ?_)
    refine At.exit ?_
    refine At.thn_e ?_
    refine At.thn_e ?_
    refine At.inb_hit ?_
    refine At.next ?_
    refine At.seq ?_
    refine At.region ?_
    refine At.p (some 236) (P_move rfl rfl) ?_
    refine At.s (S_callR (some 237) [(100, _), (101, _)] [] [100, 101] (vs := [_]) rfl en12 rfl (ON rfl rfl (ON rfl rfl O0)) (by simp) V0 (by simp) (c_Up d b0 b1 n 0 ) (by rintro _ _ ⟨rfl, rfl⟩; rfl) ?_)
    rintro _ _ ⟨rfl, rfl⟩
    refine At.nil ?_
    refine At.next ?_
    refine At.seq ?_
    refine At.seq ?_
    refine At.region ?_
    refine At.p (some 21) (P_assign rfl rfl) ?_
    refine At.nil ?_
    refine At.next ?_
    refine At.block ?_
    refine At.loopx (I := fun m fr H => ∃ (j : Nat), m = n - j ∧ fr = frOf [(0, iV (n : Int)), (1, .slice A nr c), (7, ptr b0 0), (8, iV 0), (9, ptr bw 0), (10, iV (k : Int)), (21, iV (j : Int)), (82, iV (k : Int)), (83, .slice A nr c), (84, iV (nr : Int)), (85, .bool (decide ((k : Int) < (nr : Int)))), (86, .bool (decide ((k : Int) < (nr : Int)))), (87, undef), (88, undef), (89, .bool false), (236, ptr b0 0)] ∧ H = famsOf (hOf [(0, ⟨false, b, q, 0, encs ActN L, 0⟩), (100, (DM.row d.up true b0 b1 n)), (101, (rowS true b1 d.up.S 0)), (102, ⟨true, bw, 0, 46, [.slice Aw n cw, .bool d.off, iV d.till, iV (d.torn : Int), iV d.wr], 0⟩), (103, ⟨true, bS, 0, 27, (es).map BG.v, cw - n⟩)]) [famG 100000 5 es, famR 100001 (L.map ActE.B)] ∧ (j ≤ n)) ?_ ?_
    ·
     intro Kc1 hKc1
     refine At.toM [(0, _), (1, _), (7, _), (8, _), (9, _), (10, _), (21, _), (82, _), (83, _), (84, _), (85, _), (86, _), (87, _), (88, _), (89, _), (236, _)] [(0, _), (100, _), (101, _), (102, _), (103, _)] [famG 100000 5 es, famR 100001 (L.map ActE.B)] (AllL.cons_ (rfl) (AllL.cons_ (rfl) (AllL.cons_ (rfl) (AllL.cons_ (rfl) (AllL.cons_ (rfl) (AllL.cons_ (rfl) (AllL.cons_ (rfl) (AllL.cons_ (rfl) (AllL.cons_ (rfl) (AllL.cons_ (rfl) (AllL.cons_ (rfl) (AllL.cons_ (rfl) (AllL.cons_ (rfl) (AllL.cons_ (rfl) (AllL.cons_ (rfl) (AllL.cons_ (rfl) trivial)))))))))))))))) (AllL.cons_ (rfl) (AllL.cons_ (rfl) (AllL.cons_ (rfl) (AllL.cons_ (rfl) (AllL.cons_ (rfl) trivial))))) (AllL.cons_ FK2 (AllL.cons_ FK2 trivial)) ?_
     exact hKc1 _ _ _ ⟨0, rfl, rfl, rfl, (by omega)⟩
    ·
     rintro m fr H ⟨j, rfl, rfl, rfl, hj⟩ Kc1 hKc1
     refine At.seq ?_
     refine At.seq ?_
     have hesn : es.length = n := hs.1.trans hdn
     refine At.region ?_
     refine At.p (some 238) (P_move rfl rfl) ?_
     refine At.p (some 239) (P_move rfl rfl) ?_
     refine At.p (some 240) (P_cmp rfl rfl rfl rfl rfl rfl) ?_
     refine At.nil ?_
     refine At.next ?_
     refine At.cond rfl (fun h240 => ?_) (fun h240 => ?_)
     · -- cond 240 t
      have e240 : (j : Int) < (n : Int) := of_decide_eq_true h240
      refine At.skip ?_
      refine At.next ?_
      refine At.seq ?_
      refine At.block ?_
      refine At.seq ?_
      refine At.region ?_
      refine At.p (some 244) (P_move rfl rfl) ?_
      refine At.p (some 245) (P_move rfl rfl) ?_
      refine At.s (S_callV (some 246) [(100, _), (101, _)] [246] (vs := [_, _]) rfl en13 rfl (VN (by simp) rfl View.all (VN (by simp) rfl View.all V0)) (by simp) (c_Read d.up (DM.up_ok hok) b0 b1 n 0 (by first | omega | exact (show d.n ≤ n by omega)) (j : Int) 0 (d.up.sector j) (up_read (by omega))) (by rintro _ _ ⟨A246, b246, c246, g246a, g246b, rfl, rfl⟩; rfl) ?_)
      rintro _ _ ⟨A246, b246, c246, g246a, g246b, rfl, rfl⟩
      refine At.p (some 243) (P_move rfl rfl) ?_
      refine At.p (some 247) (P_extract rfl rfl rfl) ?_
      refine At.p (some 248) (P_extract rfl rfl rfl) ?_
      refine At.p (some 22) (P_assign rfl rfl) ?_
      refine At.p (some 23) (P_assign rfl rfl) ?_
      refine At.nil ?_
      refine At.next ?_
      refine At.seq ?_
      refine At.draws 13 [] [.q false [0, 1, 2, 3, 4, 5, 6, 7, 8, 9, 10, 11, 12]] (by kernel_rfl) (by kernel_rfl) ?_
      refine At.wp (some 249) (P_move rfl rfl) ?_
      refine At.wp (some 250) (P_cmp rfl rfl rfl rfl rfl rfl) ?_
      refine At.wp (some 251) (P_move rfl rfl) ?_
      refine At.wgy (some 252) (t := 251) rfl rfl rfl rfl (P_move rfl rfl) ?_
      refine At.wgyq (some 253) (t := 251) rfl rfl rfl rfl (Q_strA (l := (d.up.sector j)) (n := ((d.up.sector j).length)) (k := 246) LN rfl Try.underlying27 Try.underlying5 Try.underlying9 rfl (fun h => g246a (by omega)) (fun _ => ⟨rfl, rfl, rfl⟩)) ?_
      refine At.wgy (some 254) (t := 251) rfl rfl rfl rfl (P_move rfl rfl) ?_
      refine At.wgy (some 255) (t := 251) rfl rfl rfl rfl (P_nilCheck rfl rfl) ?_
      refine At.wgy (some 256) (t := 251) rfl rfl rfl rfl (P_fieldAddr0 (off := 0) rfl Try.underlying46 rfl sz44 rfl rfl) ?_
      refine At.wgyq (some 257) (t := 251) rfl rfl rfl rfl (Q_loadO (k := 102) rfl rfl Try.underlying44 rfl rfl rfl) ?_
      refine At.wgy (some 258) (t := 251) rfl rfl rfl rfl (P_move rfl rfl) ?_
      refine At.wgy (some 259) (t := 251) rfl rfl rfl rfl (P_indexAddr_slz (b := bS) (j := j) rfl Try.underlying44 sz27 rfl ((fun h => hAw (by omega)) OG) rfl RO OG) ?_
      have hok260 : BG.ok (es.getD j default) := hes _ (getDG_mem OG)
      refine At.wgyq (some 260) (t := 251) rfl rfl rfl rfl (Q_loadM (k := 103) (f := BG.v) (l := es) ((default : BG)) rfl rfl Try.underlying27 rfl rfl OG) ?_
      refine At.wgyq (some 261) (t := 251) rfl rfl rfl rfl (Q_strG 100000 j FK2 (by omega) hes rfl Try.underlying27 Try.underlying5 Try.underlying9 rfl) ?_
      refine At.wqn ?_
      refine At.wt rfl ?_
      refine At.gy (t := 251) rfl rfl rfl rfl ?_
      refine At.p (some 262) (P_neq_str (a := (d.up.sector j)) (b := ((es.getD j default).l)) rfl rfl rfl) ?_
      refine At.p (some 263) (P_pick_f rfl rfl rfl rfl) ?_
      refine At.nil ?_
      refine At.next ?_
      refine At.cond rfl (fun h263 => by rw [up_sec hs (by omega)] at h263; simp at h263) (fun h263 => ?_)
      have e263 : (d.up.sector j) = ((es.getD j default).l) := (by first | (simp; done) | simpa using h263)
      refine At.skip ?_
      refine At.inb_n ?_
      refine At.next ?_
      refine At.region ?_
      refine At.p (some 241) (P_move rfl rfl) ?_
      refine At.p (some 242) (P_add_i rfl rfl rfl (by omega)) ?_
      refine At.p (some 21) (P_assign rfl rfl) ?_
      refine At.nil ?_
      refine At.next ?_
      refine At.toM [(0, _), (1, _), (7, _), (8, _), (9, _), (10, _), (21, _), (82, _), (83, _), (84, _), (85, _), (86, _), (87, _), (88, _), (89, _), (236, _)] [(0, _), (100, _), (101, _), (102, _), (103, _)] [famG 100000 5 es, famR 100001 (L.map ActE.B)] (AllL.cons_ (rfl) (AllL.cons_ (rfl) (AllL.cons_ (rfl) (AllL.cons_ (rfl) (AllL.cons_ (rfl) (AllL.cons_ (rfl) (AllL.cons_ (rfl) (AllL.cons_ (rfl) (AllL.cons_ (rfl) (AllL.cons_ (rfl) (AllL.cons_ (rfl) (AllL.cons_ (rfl) (AllL.cons_ (rfl) (AllL.cons_ (rfl) (AllL.cons_ (rfl) (AllL.cons_ (rfl) trivial)))))))))))))))) (AllL.cons_ (rfl) (AllL.cons_ (rfl) (AllL.cons_ (rfl) (AllL.cons_ (rfl) (AllL.cons_ (rfl) trivial))))) (AllL.cons_ FK2 (AllL.cons_ FK2 trivial)) ?_
      exact hKc1 _ _ _ (by omega) ⟨j + 1, rfl, rfl, rfl, (by omega)⟩
     · -- cond 240 f
      have e240 : ¬ (j : Int) < (n : Int) := of_decide_eq_false h240
      refine At.exit ?_
      refine At.thn_e ?_
      refine At.thn_e ?_
      refine At.inb_hit ?_
      refine At.next ?_
      refine At.seq ?_
      refine At.region ?_
      refine At.p (some 264) (P_move rfl rfl) ?_
      refine At.p (some 265) (P_cmp rfl rfl rfl rfl rfl rfl) ?_
      refine At.p (some 4) (P_assign rfl rfl) ?_
      refine At.nil ?_
      refine At.next ?_
      refine At.ret ?_
      have hq0 : (0 == 0) = true := (by first | rfl | decide | (simp; done))
      refine At.give (.inl rfl) [] (rows' := []) (vs := [_]) rfl ⟨rfl, trivial⟩ rfl (by simp) (by simp) ⟨(by first | (rw [hq0]; try rfl; done) | (rw [← hq0]; try rfl; done) | (simp only [hq0]; try rfl; done) | (simp only [← hq0]; try rfl; done) | rfl), (by first | (rw [hq0]; try rfl; done) | (rw [← hq0]; try rfl; done) | (simp only [hq0]; try rfl; done) | (simp only [← hq0]; try rfl; done) | rfl)⟩


end Go.Proofs.Ytdingfinclcbgaa
