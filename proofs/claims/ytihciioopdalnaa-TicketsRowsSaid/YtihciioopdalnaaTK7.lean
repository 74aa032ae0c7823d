import Derived.Test.YtihciioopdalnaaTK6
import Derived.Test.YtihciioopdalnaaTK4
namespace Go.Proofs.Ytihciioopdalnaa
set_option maxRecDepth 20000
set_option linter.unusedVariables false
set_option linter.unusedSimpArgs false
open Go.SE Go.RowKit
attribute [local irreducible] macS sumS
theorem nu_sum {tk : List (BitVec 8)} (h : tk.length = 16) : ((((tk.getD 0 0#8).toNat : Int) * 16777216 + ((tk.getD 1 0#8).toNat : Int) * 65536) + ((tk.getD 2 0#8).toNat : Int) * 256) + ((tk.getD 3 0#8).toNat : Int) = ((nuI tk : Nat) : Int) := by
 rw [nuI_t h]
 match tk, h with
 | a :: b :: c :: d :: l, _ =>
  simp only [List.take_succ_cons, List.take_zero, beN, List.getD_cons_zero, List.getD_cons_succ]
  omega
theorem nuOk_hi {key : List (BitVec 8)} {nx : Int} {tk : List (BitVec 8)} (h : (tk.getD 0 0#8).toNat > 127) : nuOk key nx tk = false := by
 by_cases h16 : tk.length = 16
 ·
  have hs := nu_sum h16
  rw [nuOk]
  have hb : ¬ (0 ≤ ((nuI tk : Nat) : Int) ∧ ((nuI tk : Nat) : Int) ≤ 2147483647) := by omega
  rw [tk_f hb, decide_eq_false (p := ([] : List (BitVec 8)) = tk) (fun h2 => by rw [← h2] at h16; cases h16)]
  simp
 · exact nuOk_f h16
theorem nuOk_no {key : List (BitVec 8)} {nx : Int} {tk : List (BitVec 8)} (h : ¬ (tkT key ((nuI tk : Nat) : Int) = tk ∧ ((nuI tk : Nat) : Int) < nx)) : nuOk key nx tk = false := by
 cases hn : nuOk key nx tk with
 | false => rfl
 | true =>
  exfalso
  unfold nuOk at hn
  simp only [Bool.and_eq_true, decide_eq_true_eq] at hn
  exact h ⟨hn.2.2, hn.2.1⟩
theorem nuOk_ye {key : List (BitVec 8)} {nx : Int} {tk : List (BitVec 8)} (h0 : tk.length = 16) (h1 : tkT key ((nuI tk : Nat) : Int) = tk) (h2 : ((nuI tk : Nat) : Int) < nx) : nuOk key nx tk = true := by
 rw [nuOk, decide_eq_true h0, decide_eq_true h1, decide_eq_true h2]; rfl
def fdB (id : Int) (L : List Ent) : Bool := L.any fun e => decide (e.id = id)
def flt (id : Int) (L : List Ent) : List Ent := L.filter fun e => !decide (e.id = id)
theorem fd_hit {id : Int} {L : List Ent} {i : Nat} (h : i < L.length) (he : (L.getD i default).id = id) : fdB id (L.take (i + 1)) = true := by
 rw [← take_add h, fdB, List.any_append, List.any_cons, List.any_nil, decide_eq_true he]; simp
theorem fd_miss {id : Int} {L : List Ent} {i : Nat} (h : i < L.length) (he : (L.getD i default).id ≠ id) : fdB id (L.take (i + 1)) = fdB id (L.take i) := by
 rw [← take_add h, fdB, List.any_append]; simp only [List.any_cons, List.any_nil, decide_eq_false he, Bool.or_false]; rfl
theorem fl_hit {id : Int} {L : List Ent} {i : Nat} (h : i < L.length) (he : (L.getD i default).id = id) : flt id (L.take (i + 1)) = flt id (L.take i) := by
 rw [← take_add h, flt, List.filter_append, List.filter_cons_of_neg (by rw [decide_eq_true he]; decide), List.filter_nil, List.append_nil]; rfl
theorem fl_miss {id : Int} {L : List Ent} {i : Nat} (h : i < L.length) (he : (L.getD i default).id ≠ id) : flt id (L.take (i + 1)) = flt id (L.take i) ++ [L.getD i default] := by
 rw [← take_add h, flt, List.filter_append]; simp only [List.filter_cons, List.filter_nil, decide_eq_false he]; rfl
theorem fl_len (id : Int) (L : List Ent) (i : Nat) : (flt id (L.take i)).length ≤ i := Nat.le_trans (List.length_filter_le _ _) (by rw [List.length_take]; omega)
def ruE (key : List (BitVec 8)) (nx : Int) (L : List Ent) (tk : List (BitVec 8)) : Int := if nuOk key nx tk then (if fdB ((nuI tk : Nat) : Int) L then 0 else 11) else 13
def ruK (key : List (BitVec 8)) (nx : Int) (L : List Ent) (tk : List (BitVec 8)) : List (BitVec 8) := if ruE key nx L tk = 0 then key else List.replicate 32 0#8
def ruN (key : List (BitVec 8)) (nx : Int) (L : List Ent) (tk : List (BitVec 8)) : Int := if ruE key nx L tk = 0 then nx else 0
def ruL (key : List (BitVec 8)) (nx : Int) (L : List Ent) (tk : List (BitVec 8)) : List Ent := if ruE key nx L tk = 0 then flt ((nuI tk : Nat) : Int) L else []
def ruI (key : List (BitVec 8)) (nx : Int) (L : List Ent) (tk : List (BitVec 8)) : Int := if ruE key nx L tk = 0 then ((nuI tk : Nat) : Int) else 0
theorem ruK_len {key : List (BitVec 8)} (nx : Int) (L : List Ent) (tk : List (BitVec 8)) (h : key.length = 32) : (ruK key nx L tk).length = 32 := by unfold ruK; split <;> simp [h]
theorem ru_t {key : List (BitVec 8)} {nx : Int} {L : List Ent} {tk : List (BitVec 8)} (h : ruE key nx L tk = 0) : ruK key nx L tk = key ∧ ruN key nx L tk = nx ∧ ruL key nx L tk = flt ((nuI tk : Nat) : Int) L ∧ ruI key nx L tk = ((nuI tk : Nat) : Int) := by
 simp [ruK, ruN, ruL, ruI, h]
theorem ru_f {key : List (BitVec 8)} {nx : Int} {L : List Ent} {tk : List (BitVec 8)} (h : ruE key nx L tk ≠ 0) : ruK key nx L tk = List.replicate 32 0#8 ∧ ruN key nx L tk = 0 ∧ ruL key nx L tk = [] ∧ ruI key nx L tk = 0 := by
 simp [ruK, ruN, ruL, ruI, h]
theorem ruE_13 {key : List (BitVec 8)} {nx : Int} {L : List Ent} {tk : List (BitVec 8)} (h : nuOk key nx tk = false) : ruE key nx L tk = 13 := by simp [ruE, h]
theorem ruE_11 {key : List (BitVec 8)} {nx : Int} {L : List Ent} {tk : List (BitVec 8)} (h : nuOk key nx tk = true) (h1 : fdB ((nuI tk : Nat) : Int) L = false) : ruE key nx L tk = 11 := by simp [ruE, h, h1]
theorem ruE_0 {key : List (BitVec 8)} {nx : Int} {L : List Ent} {tk : List (BitVec 8)} (h : nuOk key nx tk = true) (h1 : fdB ((nuI tk : Nat) : Int) L = true) : ruE key nx L tk = 0 := by simp [ruE, h, h1]
/-! the document's and the code's are one -/
theorem fd_idx (id : Int) : ∀ L : List Ent, fdB id L = decide (idxS id L < L.length)
 | [] => rfl
 | e :: L => by
  have h := fd_idx id L
  unfold fdB at h ⊢
  rw [List.any_cons, h, idxS]
  by_cases he : e.id = id
  · simp [he]
  · simp [he]
theorem ris_gt {nx : Int} : ∀ {last : Int} {L : List Ent}, risB nx last L = true → ∀ e ∈ L, last < e.id
 | _, [], _, e, he => nomatch he
 | last, x :: L, h, e, he => by
  simp only [risB, Bool.and_eq_true, decide_eq_true_eq] at h
  rcases List.mem_cons.1 he with rfl | he
  · exact h.1.1
  ·
   have := ris_gt h.2 e he
   omega
theorem fl_erase {nx id : Int} : ∀ {last : Int} {L : List Ent}, risB nx last L = true → idxS id L < L.length → flt id L = L.eraseIdx (idxS id L)
 | _, [], _, h => absurd h (Nat.not_lt_zero _)
 | last, e :: L, h, hi => by
  simp only [risB, Bool.and_eq_true, decide_eq_true_eq] at h
  unfold flt
  by_cases he : e.id = id
  ·
   rw [idxS, if_pos he, List.filter_cons_of_neg (by simp [he]), List.eraseIdx_cons_zero]
   refine List.filter_eq_self.2 fun x hx => ?_
   have := ris_gt h.2 x hx
   simp
   omega
  ·
   have hi2 : idxS id L < L.length := by
    rw [idxS, if_neg he] at hi
    simpa using hi
   have ih := fl_erase h.2 hi2
   unfold flt at ih
   rw [idxS, if_neg he, List.filter_cons_of_pos (by simp [he]), List.eraseIdx_cons_succ, ih]
theorem us_ru {key : List (BitVec 8)} {nx : Int} {L : List Ent} {tk : List (BitVec 8)} (hr : rightT nx L = true) : usE key nx L tk = ruE key nx L tk ∧ (usE key nx L tk = 0 → saB (usK key nx L tk) (usN key nx L tk) (usL key nx L tk) (ruK key nx L tk) (ruN key nx L tk) (ruL key nx L tk) = true ∧ usI key nx L tk = ruI key nx L tk) := by
 have he : usE key nx L tk = ruE key nx L tk := by
  rw [usE, ruE, if_pos hr, fd_idx]
  simp
 refine ⟨he, fun h0 => ?_⟩
 obtain ⟨a1, a2, a3, a4⟩ := us_t h0
 obtain ⟨b1, b2, b3, b4⟩ := ru_t (he.symm.trans h0)
 refine ⟨sa_t (a1.trans b1.symm) (a2.trans b2.symm) ?_, a4.trans b4.symm⟩
 rw [a3, b3]
 have hi : idxS ((nuI tk : Nat) : Int) L < L.length := by
  rw [usE, if_pos hr] at h0
  split at h0
  ·
   split at h0
   · assumption
   · cases h0
  · cases h0
 rw [rightT, Bool.and_eq_true] at hr
 exact (fl_erase hr.2 hi).symm
theorem usL_le (key : List (BitVec 8)) (nx : Int) (L : List Ent) (tk : List (BitVec 8)) : (usL key nx L tk).length ≤ L.length := by
 unfold usL
 split
 · exact List.length_eraseIdx_le _ _
 · exact Nat.zero_le _
attribute [local irreducible] tkT rightT risB lastId
attribute [local irreducible] nuI nuOk idxS idxI mintL miE miK miN miL miI usE usK usN usL usI knN saB fdB flt ruE ruK ruN ruL ruI
set_option maxHeartbeats 2000000 in
theorem r_Use {key : List (BitVec 8)} {next : Int} {L : List Ent} {A : Option Addr} {n c b q : Nat} {tk : List (BitVec 8)} {Atk : Option Addr} {ntk ctk btk qtk : Nat} (hkey : key.length = 32) (hL : L.length = n) (hA : 0 < n → A = some ⟨b, q, none⟩) (hc : n ≤ c) (hntk : tk.length = ntk) (hAtk : 0 < ntk → Atk = some ⟨btk, qtk, none⟩) (hctk : ntk ≤ ctk) (hn : n ≤ 3518437208780) :
  Con Try.prog 30 [.agg ([(key).map u8V, [iV next, .slice A n c]].flatten).toArray, .slice Atk ntk ctk] [⟨false, b, q, 0, encs EntE L, 0⟩, pRow btk qtk tk] (fun v rs => ∃ (A' : Option Addr) (b' c' : Nat), (0 < c' → A' = some ⟨b', 0, none⟩) ∧ (ruL key next L tk).length ≤ c' ∧ v = .tuple #[.agg ([(ruK key next L tk).map u8V, [iV (ruN key next L tk), .slice A' (ruL key next L tk).length c']].flatten).toArray, iV (ruI key next L tk), iV (ruE key next L tk)] ∧ rs = [⟨true, b', 0, 55, encs EntE (ruL key next L tk), (c' - (ruL key next L tk).length) * 33⟩]) := by
 refine Con.enter Try.func30 Try.ntmps30 (Nat.le_of_ble_eq_true rfl) rfl fun w => ?_
 refine At.seq ?_
 refine At.region ?_
 refine At.s (S_box (some 2) 2 (zs := [(key).map u8V, [iV next, .slice A n c]].flatten) rfl rfl rfl (fun b2 => ?_))
 refine At.s (S_alloc (some 4) 4 (zs := [(List.replicate 32 0#8).map u8V, [iV 0, .slice none 0 0]].flatten) rfl ze44 rfl (fun b4 => ?_))
 refine At.p (some 5) (P_assign rfl rfl) ?_
 refine At.p (some 6) (P_assign rfl rfl) ?_
 refine At.nil ?_
 refine At.next ?_
 refine At.seq ?_
 refine At.seq ?_
 refine At.region ?_
 refine At.p (some 11) (P_move rfl rfl) ?_
 refine At.p (some 12) (P_len_sl rfl rfl ⟨_, Try.underlying22⟩ rfl) ?_
 refine At.p (some 13) (P_cmp rfl rfl rfl rfl rfl rfl) ?_
 refine At.p (some 14) (P_move rfl rfl) ?_
 refine At.gsplit (t := 14) (want := false) rfl (fun g1 => ?_) (fun g1 => ?_)
 ·
  have eg1 : (ntk : Int) = 16 := bne_eq_false_iff_eq.1 g1
  refine At.gy (t := 14) rfl g1 rfl rfl ?_
  refine At.p (some 15) (P_move rfl rfl) ?_
  refine At.gy (t := 14) rfl g1 rfl rfl ?_
  refine At.p (some 16) (P_indexAddr_sl1 (b := btk) (m := qtk) (j := 0) rfl Try.underlying22 sz5 rfl (hAtk OG) rfl rfl OG) ?_
  refine At.gy (t := 14) rfl g1 rfl rfl ?_
  refine At.q (some 17) (Q_loadR (k := 1) (f := u8V) (l := tk) (j := 0) (0#8) rfl rfl Try.underlying5 rfl rfl RO OG) ?_
  refine At.gy (t := 14) rfl g1 rfl rfl ?_
  refine At.p (some 18) (P_gtr_w (n := 8) (b := 127#8) rfl rfl rfl) ?_
  refine At.p (some 19) (P_pick_f rfl rfl g1 rfl) ?_
  refine At.nil ?_
  refine At.next ?_
  refine At.cond rfl (fun h19 => ?_) (fun h19 => ?_)
  · -- cond 19 t
   have e19 : (127#8).toNat < (tk.getD 0 0#8).toNat := of_decide_eq_true h19
   refine At.seq ?_
   refine At.region ?_
   refine At.p (some 20) (P_build_struct (cs := ([(List.replicate 32 0#8).map u8V, [iV 0, .slice none 0 0]].flatten).toArray) (parts := _) (vs := []) rfl Try.underlying44 ze44 pl44 rfl (by show Instr.fill _ ([(List.replicate 32 0#8).map u8V, [iV 0], [.slice none 0 0]].flatten).toArray _ = _; exact fill_end (by simp))) ?_
   refine At.s (S_storeA none (k := 4) (vs := [(List.replicate 32 0#8).map u8V, [iV 0, .slice none 0 0]].flatten) rfl rfl rfl (by rw [sz44]; exact congrArg some LN) rfl (one_flatc (one_map (fun _ => rfl)) (one_flatc (one_cons rfl (one_cons rfl one_nil)) one_flat0)) NG rfl LN ?_)
   refine At.p (some 5) (P_assign rfl rfl) ?_
   refine At.p (some 6) (P_assign rfl rfl) ?_
   refine At.nil ?_
   refine At.next ?_
   refine At.ret ?_
   refine At.thn_r ?_
   have h127 : (127#8).toNat = 127 := rfl
   have hno : nuOk key next tk = false := by first | exact nuOk_f (by omega) | exact nuOk_hi (by omega)
   have z5 := ruE_13 (L := L) hno
   obtain ⟨z1, z2, z3, z4⟩ := ru_f (key := key) (nx := next) (L := L) (tk := tk) (by rw [z5]; decide)
   refine At.empty 990 0 55 ?_
   refine At.giveV (.inl rfl) [990] (rows' := [_]) (ResV.three rfl (ResOne.cellA (k := 4) rfl Try.underlying44 rfl sz44 LN rfl) (ResOne.tmp rfl) (ResOne.tmp rfl)) rfl (by simp) (by simp) ?_
   exact ⟨none, 0, 0, (fun h => absurd h (Nat.lt_irrefl 0)), (by simp only [z1, z2, z3, z4, z5]; exact Nat.le_refl _), (by first | (rw [z1, z2, z3, z4, z5]; try rfl; done) | (rw [← z1, ← z2, ← z3, ← z4, ← z5]; try rfl; done) | (simp only [z1, z2, z3, z4, z5]; try rfl; done) | (simp only [← z1, ← z2, ← z3, ← z4, ← z5]; try rfl; done) | rfl), (by first | (rw [z1, z2, z3, z4, z5]; try rfl; done) | (rw [← z1, ← z2, ← z3, ← z4, ← z5]; try rfl; done) | (simp only [z1, z2, z3, z4, z5]; try rfl; done) | (simp only [← z1, ← z2, ← z3, ← z4, ← z5]; try rfl; done) | rfl)⟩
  · -- cond 19 f
   have e19 : ¬ (127#8).toNat < (tk.getD 0 0#8).toNat := of_decide_eq_false h19
   refine At.skip ?_
   refine At.next ?_
   refine At.seq ?_
   have t0 := (tk.getD 0 0#8).isLt
   have t1 := (tk.getD 1 0#8).isLt
   have t2 := (tk.getD 2 0#8).isLt
   have t3 := (tk.getD 3 0#8).isLt
   refine At.draws 21 [] [.q false [0, 1, 2, 3, 4, 5, 6, 7, 8, 9, 10, 11, 12, 13, 14, 15, 16, 17, 18, 19, 20]] (by kernel_rfl) (by kernel_rfl) ?_
   refine At.wp (some 21) (P_move rfl rfl) ?_
   refine At.wp (some 22) (P_indexAddr_sl1 (b := btk) (m := qtk) (j := 0) rfl Try.underlying22 sz5 rfl (hAtk OG) rfl rfl OG) ?_
   refine At.wq (some 23) (Q_loadR (k := 1) (f := u8V) (l := tk) (j := 0) (0#8) rfl rfl Try.underlying5 rfl rfl RO OG) ?_
   refine At.wp (some 24) (P_conv_wi UK.u8 (by decide) rfl Try.underlying5 Try.underlying3 rfl) ?_
   refine At.wp (some 25) (P_shl_c (c := 16777216) rfl rfl rfl (by decide) (by decide) (by rfl) (by omega)) ?_
   refine At.wp (some 26) (P_move rfl rfl) ?_
   refine At.wp (some 27) (P_indexAddr_sl1 (b := btk) (m := qtk) (j := 1) rfl Try.underlying22 sz5 rfl (hAtk OG) rfl rfl OG) ?_
   refine At.wq (some 28) (Q_loadR (k := 1) (f := u8V) (l := tk) (j := 1) (0#8) rfl rfl Try.underlying5 rfl rfl rfl OG) ?_
   refine At.wp (some 29) (P_conv_wi UK.u8 (by decide) rfl Try.underlying5 Try.underlying3 rfl) ?_
   refine At.wp (some 30) (P_shl_c (c := 65536) rfl rfl rfl (by decide) (by decide) (by rfl) (by omega)) ?_
   refine At.wp (some 31) (P_add_i rfl rfl rfl (by omega)) ?_
   refine At.wp (some 32) (P_move rfl rfl) ?_
   refine At.wp (some 33) (P_indexAddr_sl1 (b := btk) (m := qtk) (j := 2) rfl Try.underlying22 sz5 rfl (hAtk OG) rfl rfl OG) ?_
   refine At.wq (some 34) (Q_loadR (k := 1) (f := u8V) (l := tk) (j := 2) (0#8) rfl rfl Try.underlying5 rfl rfl rfl OG) ?_
   refine At.wp (some 35) (P_conv_wi UK.u8 (by decide) rfl Try.underlying5 Try.underlying3 rfl) ?_
   refine At.wp (some 36) (P_shl_c (c := 256) rfl rfl rfl (by decide) (by decide) (by rfl) (by omega)) ?_
   refine At.wp (some 37) (P_add_i rfl rfl rfl (by omega)) ?_
   refine At.wp (some 38) (P_move rfl rfl) ?_
   refine At.wp (some 39) (P_indexAddr_sl1 (b := btk) (m := qtk) (j := 3) rfl Try.underlying22 sz5 rfl (hAtk OG) rfl rfl OG) ?_
   refine At.wq (some 40) (Q_loadR (k := 1) (f := u8V) (l := tk) (j := 3) (0#8) rfl rfl Try.underlying5 rfl rfl rfl OG) ?_
   refine At.wp (some 41) (P_conv_wi UK.u8 (by decide) rfl Try.underlying5 Try.underlying3 rfl) ?_
   refine At.wqn ?_
   refine At.wt rfl ?_
   refine At.p (some 42) (P_add_i rfl rfl rfl (by omega)) ?_
   have q42 : (((((((tk.getD 0 0#8).toNat : Int) * 16777216) + (((tk.getD 1 0#8).toNat : Int) * 65536)) + (((tk.getD 2 0#8).toNat : Int) * 256)) + ((tk.getD 3 0#8).toNat : Int)) : Int) = ((nuI tk : Nat) : Int) := (nu_sum (by omega))
   simp only [q42]
   refine At.p (some 7) (P_assign rfl rfl) ?_
   refine At.nil ?_
   refine At.next ?_
   refine At.seq ?_
   refine At.seq ?_
   refine At.draws 12 [] [.q false [0, 1, 2, 5, 6], .e false 3, .q false [4, 7, 8, 9, 10, 11]] (by kernel_rfl) (by kernel_rfl) ?_
   refine At.wp (some 43) (P_fieldAddr0 (off := 0) rfl Try.underlying44 rfl sz23 rfl rfl) ?_
   refine At.wq (some 44) (Q_loadN (k := 2) (j := 0) (cs := (key).map u8V) rfl rfl Try.underlying23 rfl sz23 rfl rfl rfl (seg_at (i := 0) rfl LN LN) LN) ?_
   refine At.wp (some 45) (P_move rfl rfl) ?_
   refine At.wp (some 48) (P_move rfl rfl) ?_
   refine At.wq (some 49) (Q_strA (l := tk) (n := ntk) (k := 1) LN rfl Try.underlying22 Try.underlying5 Try.underlying9 rfl hAtk (fun _ => ⟨rfl, rfl, rfl⟩)) ?_
   refine At.wqn ?_
   refine At.we ?_
   refine SStep.up (S_callV (some 46) [] [46] (vs := [_, _]) rfl en28 rfl V0 (by simp) (r_TText (key := key) (id := ((nuI tk : Nat) : Int)) LN) (by rintro _ _ ⟨A46, b46, c46, g46a, g46b, rfl, rfl⟩; rfl) ?_)
   rintro _ _ ⟨A46, b46, c46, g46a, g46b, rfl, rfl⟩
   have := tk_le key ((nuI tk : Nat) : Int)
   refine At.wq (some 47) (Q_strA (l := (tkT key ((nuI tk : Nat) : Int))) (n := ((tkT key ((nuI tk : Nat) : Int)).length)) (k := 46) LN rfl Try.underlying22 Try.underlying5 Try.underlying9 rfl (fun h => g46a (by omega)) (fun _ => ⟨rfl, rfl, rfl⟩)) ?_
   refine At.wp (some 50) (P_neq_str (a := (tkT key ((nuI tk : Nat) : Int))) (b := tk) rfl rfl rfl) ?_
   refine At.wp (some 51) (P_move rfl rfl) ?_
   refine At.wsplit (t := 51) (want := false) rfl (fun g2 => ?_) (fun g2 => ?_)
   ·
    have eg2 : (tkT key ((nuI tk : Nat) : Int)) = tk := (by first | (simp; done) | simpa using g2)
    refine At.wgy (some 52) (t := 51) rfl g2 rfl rfl (P_move rfl rfl) ?_
    refine At.wgy (some 53) (t := 51) rfl g2 rfl rfl (P_fieldAddr0 (off := 32) rfl Try.underlying44 rfl sz3 rfl rfl) ?_
    refine At.wgyq (some 54) (t := 51) rfl g2 rfl rfl (Q_loadO (k := 2) rfl rfl Try.underlying3 rfl rfl (seg_get (i := 1) (p := 0) rfl LN rfl)) ?_
    refine At.wqn ?_
    refine At.wt rfl ?_
    refine At.gy (t := 51) rfl g2 rfl rfl ?_
    refine At.p (some 55) (P_cmp rfl rfl rfl rfl rfl rfl) ?_
    refine At.p (some 56) (P_pick_f rfl rfl g2 rfl) ?_
    refine At.nil ?_
    refine At.next ?_
    refine At.cond rfl (fun h56 => ?_) (fun h56 => ?_)
    · -- cond 56 t
     have e56 : ((nuI tk : Nat) : Int) ≥ next := of_decide_eq_true h56
     refine At.seq ?_
     refine At.region ?_
     refine At.p (some 57) (P_build_struct (cs := ([(List.replicate 32 0#8).map u8V, [iV 0, .slice none 0 0]].flatten).toArray) (parts := _) (vs := []) rfl Try.underlying44 ze44 pl44 rfl (by show Instr.fill _ ([(List.replicate 32 0#8).map u8V, [iV 0], [.slice none 0 0]].flatten).toArray _ = _; exact fill_end (by simp))) ?_
     refine At.s (S_storeA none (k := 4) (vs := [(List.replicate 32 0#8).map u8V, [iV 0, .slice none 0 0]].flatten) rfl rfl rfl (by rw [sz44]; exact congrArg some LN) rfl (one_flatc (one_map (fun _ => rfl)) (one_flatc (one_cons rfl (one_cons rfl one_nil)) one_flat0)) NG rfl LN ?_)
     refine At.p (some 5) (P_assign rfl rfl) ?_
     refine At.p (some 6) (P_assign rfl rfl) ?_
     refine At.nil ?_
     refine At.next ?_
     refine At.ret ?_
     refine At.thn_r ?_
     have hno : nuOk key next tk = false := nuOk_no (fun h => by first | omega | (have h8 := h.1; simp_all))
     have z5 := ruE_13 (L := L) hno
     obtain ⟨z1, z2, z3, z4⟩ := ru_f (key := key) (nx := next) (L := L) (tk := tk) (by rw [z5]; decide)
     refine At.empty 990 0 55 ?_
     refine At.giveV (.inl rfl) [990] (rows' := [_]) (ResV.three rfl (ResOne.cellA (k := 4) rfl Try.underlying44 rfl sz44 LN rfl) (ResOne.tmp rfl) (ResOne.tmp rfl)) rfl (by simp) (by simp) ?_
     exact ⟨none, 0, 0, (fun h => absurd h (Nat.lt_irrefl 0)), (by simp only [z1, z2, z3, z4, z5]; exact Nat.le_refl _), (by first | (rw [z1, z2, z3, z4, z5]; try rfl; done) | (rw [← z1, ← z2, ← z3, ← z4, ← z5]; try rfl; done) | (simp only [z1, z2, z3, z4, z5]; try rfl; done) | (simp only [← z1, ← z2, ← z3, ← z4, ← z5]; try rfl; done) | rfl), (by first | (rw [z1, z2, z3, z4, z5]; try rfl; done) | (rw [← z1, ← z2, ← z3, ← z4, ← z5]; try rfl; done) | (simp only [z1, z2, z3, z4, z5]; try rfl; done) | (simp only [← z1, ← z2, ← z3, ← z4, ← z5]; try rfl; done) | rfl)⟩
    · -- cond 56 f
     have e56 : ¬ ((nuI tk : Nat) : Int) ≥ next := of_decide_eq_false h56
     refine At.skip ?_
     refine At.next ?_
     refine At.seq ?_
     refine At.region ?_
     refine At.p (some 58) (P_fieldAddr0 (off := 0) rfl Try.underlying44 rfl sz23 rfl rfl) ?_
     refine At.q (some 59) (Q_loadN (k := 2) (j := 0) (cs := (key).map u8V) rfl rfl Try.underlying23 rfl sz23 rfl rfl rfl (seg_at (i := 0) rfl LN LN) LN) ?_
     refine At.p (some 60) (P_fieldAddr0 (off := 32) rfl Try.underlying44 rfl sz3 rfl rfl) ?_
     refine At.q (some 61) (Q_loadO (k := 2) rfl rfl Try.underlying3 rfl rfl (seg_get (i := 1) (p := 0) rfl LN rfl)) ?_
     refine At.p (some 62) (P_build_struct (cs := ([(key).map u8V, [iV next, .slice none 0 0]].flatten).toArray) (parts := _) (vs := [(0, _), (1, _)]) rfl Try.underlying44 ze44 pl44 rfl (by show Instr.fill _ ([(List.replicate 32 0#8).map u8V, [iV 0], [.slice none 0 0]].flatten).toArray _ = _; refine fill_seg (k := 0) (vs := (key).map u8V) rfl rfl LN rfl LN LN ?_; refine fill_seg (k := 1) (vs := [iV next]) rfl rfl LN rfl LN LN ?_; exact fill_end (by simp))) ?_
     refine At.s (S_alloc (some 8) 8 (zs := [(List.replicate 32 0#8).map u8V, [iV 0, .slice none 0 0]].flatten) rfl ze44 rfl (fun b8 => ?_))
     refine At.s (S_storeA none (k := 8) (vs := [(key).map u8V, [iV next, .slice none 0 0]].flatten) rfl rfl rfl (by rw [sz44]; exact congrArg some LN) rfl (one_flatc (one_map (fun _ => rfl)) (one_flatc (one_cons rfl (one_cons rfl one_nil)) one_flat0)) NG rfl LN ?_)
     refine At.nil ?_
     refine At.next ?_
     refine At.seq ?_
     refine At.region ?_
     refine At.p (some 9) (P_assign rfl rfl) ?_
     refine At.nil ?_
     refine At.next ?_
     refine At.seq ?_
     refine At.seq ?_
     refine At.region ?_
     refine At.p (some 10) (P_assign rfl rfl) ?_
     refine At.nil ?_
     refine At.next ?_
     refine At.block ?_
     refine At.empty 84 0 55 ?_
     refine At.loopx (I := fun m fr H => ∃ (i : Nat) (A84 : Option Addr) (b84 c84 : Nat), m = n - i ∧ fr = frOf [(0, .agg ([(key).map u8V, [iV next, .slice A n c]].flatten).toArray), (1, .slice Atk ntk ctk), (2, ptr b2 0), (4, ptr b4 0), (5, iV 0), (6, iV 0), (7, iV ((nuI tk : Nat) : Int)), (8, ptr b8 0), (9, .bool (fdB ((nuI tk : Nat) : Int) (L.take i))), (10, iV (i : Int)), (11, .slice Atk ntk ctk), (12, iV (ntk : Int)), (13, .bool ((ntk : Int) != 16)), (14, .bool ((ntk : Int) != 16)), (15, .slice Atk ntk ctk), (16, ptr btk (qtk + 0)), (17, u8V (tk.getD 0 0#8)), (18, .bool (decide ((127#8).toNat < (tk.getD 0 0#8).toNat))), (19, .bool (decide ((127#8).toNat < (tk.getD 0 0#8).toNat))), (21, .slice Atk ntk ctk), (22, ptr btk (qtk + 0)), (23, u8V (tk.getD 0 0#8)), (24, iV ((tk.getD 0 0#8).toNat : Int)), (25, iV (((tk.getD 0 0#8).toNat : Int) * 16777216)), (26, .slice Atk ntk ctk), (27, ptr btk (qtk + 1)), (28, u8V (tk.getD 1 0#8)), (29, iV ((tk.getD 1 0#8).toNat : Int)), (30, iV (((tk.getD 1 0#8).toNat : Int) * 65536)), (31, iV ((((tk.getD 0 0#8).toNat : Int) * 16777216) + (((tk.getD 1 0#8).toNat : Int) * 65536))), (32, .slice Atk ntk ctk), (33, ptr btk (qtk + 2)), (34, u8V (tk.getD 2 0#8)), (35, iV ((tk.getD 2 0#8).toNat : Int)), (36, iV (((tk.getD 2 0#8).toNat : Int) * 256)), (37, iV (((((tk.getD 0 0#8).toNat : Int) * 16777216) + (((tk.getD 1 0#8).toNat : Int) * 65536)) + (((tk.getD 2 0#8).toNat : Int) * 256))), (38, .slice Atk ntk ctk), (39, ptr btk (qtk + 3)), (40, u8V (tk.getD 3 0#8)), (41, iV ((tk.getD 3 0#8).toNat : Int)), (42, iV ((nuI tk : Nat) : Int)), (43, ptr b2 0), (44, aggK key), (45, iV ((nuI tk : Nat) : Int)), (46, .slice A46 ((tkT key ((nuI tk : Nat) : Int)).length) c46), (47, strV (tkT key ((nuI tk : Nat) : Int))), (48, .slice Atk ntk ctk), (49, strV tk), (50, .bool (!decide ((tkT key ((nuI tk : Nat) : Int)) = tk))), (51, .bool (!decide ((tkT key ((nuI tk : Nat) : Int)) = tk))), (52, iV ((nuI tk : Nat) : Int)), (53, ptr b2 32), (54, iV next), (55, .bool (decide (((nuI tk : Nat) : Int) ≥ next))), (56, .bool (decide (((nuI tk : Nat) : Int) ≥ next))), (58, ptr b2 0), (59, aggK key), (60, ptr b2 32), (61, iV next), (62, .agg ([(key).map u8V, [iV next, .slice none 0 0]].flatten).toArray)] ∧ H = hOf [(0, ⟨false, b, q, 0, encs EntE L, 0⟩), (1, pRow btk qtk tk), (2, ⟨true, b2, 0, 44, [(key).map u8V, [iV next, .slice A n c]].flatten, 0⟩), (4, ⟨true, b4, 0, 44, [(List.replicate 32 0#8).map u8V, [iV 0, .slice none 0 0]].flatten, 0⟩), (8, ⟨true, b8, 0, 44, [(key).map u8V, [iV next, .slice A84 ((flt ((nuI tk : Nat) : Int) (L.take i)).length) c84]].flatten, 0⟩), (46, ⟨true, b46, 0, 5, (tkT key ((nuI tk : Nat) : Int)).map u8V, c46 - (tkT key ((nuI tk : Nat) : Int)).length⟩), (84, ⟨true, b84, 0, 55, encs EntE (flt ((nuI tk : Nat) : Int) (L.take i)), (c84 - ((flt ((nuI tk : Nat) : Int) (L.take i))).length) * 33⟩)] ∧ (i ≤ n) ∧ (0 < c84 → A84 = some ⟨b84, 0, none⟩) ∧ ((flt ((nuI tk : Nat) : Int) (L.take i)).length ≤ c84)) ?_ ?_
     ·
      intro Kc0 hKc0
      refine At.to [(0, _), (1, _), (2, _), (4, _), (5, _), (6, _), (7, _), (8, _), (9, .bool (fdB ((nuI tk : Nat) : Int) (L.take 0))), (10, _), (11, _), (12, _), (13, _), (14, _), (15, _), (16, _), (17, _), (18, _), (19, _), (21, _), (22, _), (23, _), (24, _), (25, _), (26, _), (27, _), (28, _), (29, _), (30, _), (31, _), (32, _), (33, _), (34, _), (35, _), (36, _), (37, _), (38, _), (39, _), (40, _), (41, _), (42, _), (43, _), (44, _), (45, _), (46, _), (47, _), (48, _), (49, _), (50, _), (51, _), (52, _), (53, _), (54, _), (55, _), (56, _), (58, _), (59, _), (60, _), (61, _), (62, _)] [(0, _), (1, _), (2, _), (4, _), (8, ⟨true, b8, 0, 44, [(key).map u8V, [iV next, .slice none ((flt ((nuI tk : Nat) : Int) (L.take 0)).length) 0]].flatten, 0⟩), (46, _), (84, ⟨true, 0, 0, 55, encs EntE (flt ((nuI tk : Nat) : Int) (L.take 0)), (0 - ((flt ((nuI tk : Nat) : Int) (L.take 0))).length) * 33⟩)] (AllL.cons_ (rfl) (AllL.cons_ (rfl) (AllL.cons_ (rfl) (AllL.cons_ (rfl) (AllL.cons_ (rfl) (AllL.cons_ (rfl) (AllL.cons_ (rfl) (AllL.cons_ (rfl) (AllL.cons_ ((by unfold fdB; rfl)) (AllL.cons_ (rfl) (AllL.cons_ (rfl) (AllL.cons_ (rfl) (AllL.cons_ (rfl) (AllL.cons_ (rfl) (AllL.cons_ (rfl) (AllL.cons_ (rfl) (AllL.cons_ (rfl) (AllL.cons_ (rfl) (AllL.cons_ (rfl) (AllL.cons_ (rfl) (AllL.cons_ (rfl) (AllL.cons_ (rfl) (AllL.cons_ (rfl) (AllL.cons_ (rfl) (AllL.cons_ (rfl) (AllL.cons_ (rfl) (AllL.cons_ (rfl) (AllL.cons_ (rfl) (AllL.cons_ (rfl) (AllL.cons_ (rfl) (AllL.cons_ (rfl) (AllL.cons_ (rfl) (AllL.cons_ (rfl) (AllL.cons_ (rfl) (AllL.cons_ (rfl) (AllL.cons_ (rfl) (AllL.cons_ (rfl) (AllL.cons_ (rfl) (AllL.cons_ (rfl) (AllL.cons_ (rfl) (AllL.cons_ (rfl) (AllL.cons_ (rfl) (AllL.cons_ (rfl) (AllL.cons_ (rfl) (AllL.cons_ (rfl) (AllL.cons_ (rfl) (AllL.cons_ (rfl) (AllL.cons_ (rfl) (AllL.cons_ (rfl) (AllL.cons_ (rfl) (AllL.cons_ (rfl) (AllL.cons_ (rfl) (AllL.cons_ (rfl) (AllL.cons_ (rfl) (AllL.cons_ (rfl) (AllL.cons_ (rfl) (AllL.cons_ (rfl) (AllL.cons_ (rfl) (AllL.cons_ (rfl) (AllL.cons_ (rfl) trivial)))))))))))))))))))))))))))))))))))))))))))))))))))))))))))) (AllL.cons_ (rfl) (AllL.cons_ (rfl) (AllL.cons_ (rfl) (AllL.cons_ (rfl) (AllL.cons_ ((by unfold flt; rfl)) (AllL.cons_ (rfl) (AllL.cons_ ((by unfold flt; rfl)) trivial))))))) ?_
      exact hKc0 _ _ _ ⟨0, none, 0, 0, rfl, rfl, rfl, (by omega), (fun h => absurd h (Nat.lt_irrefl 0)), (fl_len _ L 0)⟩
     ·
      rintro m fr H ⟨i, A84, b84, c84, rfl, rfl, rfl, hi, g84a, g84b⟩ Kc0 hKc0
      have hfl := fl_len ((nuI tk : Nat) : Int) L i
      refine At.seq ?_
      refine At.seq ?_
      refine At.region ?_
      refine At.p (some 63) (P_move rfl rfl) ?_
      refine At.p (some 64) (P_fieldAddr0 (off := 33) rfl Try.underlying44 rfl sz42 rfl rfl) ?_
      refine At.q (some 65) (Q_loadO (k := 2) rfl rfl Try.underlying42 rfl rfl (seg_get (i := 1) (p := 1) rfl LN rfl)) ?_
      refine At.p (some 66) (P_len_sl rfl rfl ⟨_, Try.underlying42⟩ rfl) ?_
      refine At.p (some 67) (P_cmp rfl rfl rfl rfl rfl rfl) ?_
      refine At.nil ?_
      refine At.next ?_
      refine At.cond rfl (fun h67 => ?_) (fun h67 => ?_)
      · -- cond 67 t
       have e67 : (i : Int) < (n : Int) := of_decide_eq_true h67
       refine At.skip ?_
       refine At.next ?_
       refine At.seq ?_
       refine At.block ?_
       refine At.seq ?_
       refine At.region ?_
       refine At.p (some 70) (P_fieldAddr0 (off := 33) rfl Try.underlying44 rfl sz42 rfl rfl) ?_
       refine At.q (some 71) (Q_loadO (k := 2) rfl rfl Try.underlying42 rfl rfl (seg_get (i := 1) (p := 1) rfl LN rfl)) ?_
       refine At.p (some 72) (P_move rfl rfl) ?_
       refine At.p (some 73) (P_indexAddr_sl (b := b) (m := q) (j := i) rfl Try.underlying42 sz55 rfl (hA OG) rfl RO OG) ?_
       refine At.p (some 74) (P_fieldAddr (off := 0) rfl Try.underlying55 rfl sz3 rfl rfl) ?_
       have enf75 := Ent.hp (L.getD i default)
       refine At.q (some 75) (Q_loadE1 (en := EntE) (k := 0) (j := i) (p := 0) (L := L) (v := iV ((L.getD i default).id)) (sz := 33) default rfl rfl rfl Try.underlying3 rfl rfl OG OG rfl) ?_
       refine At.p (some 76) (P_move rfl rfl) ?_
       refine At.p (some 77) (P_cmp rfl rfl rfl rfl rfl rfl) ?_
       refine At.nil ?_
       refine At.next ?_
       refine At.cond rfl (fun h77 => ?_) (fun h77 => ?_)
       · -- cond 77 t
        have e77 : ((L.getD i default).id) = ((nuI tk : Nat) : Int) := eq_of_beq h77
        refine At.region ?_
        refine At.p (some 9) (P_assign rfl rfl) ?_
        refine At.nil ?_
        refine At.inb_n ?_
        refine At.next ?_
        refine At.region ?_
        refine At.p (some 68) (P_move rfl rfl) ?_
        refine At.p (some 69) (P_add_i rfl rfl rfl (by omega)) ?_
        refine At.p (some 10) (P_assign rfl rfl) ?_
        refine At.nil ?_
        refine At.next ?_
        refine At.to [(0, _), (1, _), (2, _), (4, _), (5, _), (6, _), (7, _), (8, _), (9, .bool (fdB ((nuI tk : Nat) : Int) (L.take (i + 1)))), (10, _), (11, _), (12, _), (13, _), (14, _), (15, _), (16, _), (17, _), (18, _), (19, _), (21, _), (22, _), (23, _), (24, _), (25, _), (26, _), (27, _), (28, _), (29, _), (30, _), (31, _), (32, _), (33, _), (34, _), (35, _), (36, _), (37, _), (38, _), (39, _), (40, _), (41, _), (42, _), (43, _), (44, _), (45, _), (46, _), (47, _), (48, _), (49, _), (50, _), (51, _), (52, _), (53, _), (54, _), (55, _), (56, _), (58, _), (59, _), (60, _), (61, _), (62, _)] [(0, _), (1, _), (2, _), (4, _), (8, ⟨true, b8, 0, 44, [(key).map u8V, [iV next, .slice A84 ((flt ((nuI tk : Nat) : Int) (L.take (i + 1))).length) c84]].flatten, 0⟩), (46, _), (84, ⟨true, b84, 0, 55, encs EntE (flt ((nuI tk : Nat) : Int) (L.take (i + 1))), (c84 - ((flt ((nuI tk : Nat) : Int) (L.take (i + 1)))).length) * 33⟩)] (AllL.cons_ (rfl) (AllL.cons_ (rfl) (AllL.cons_ (rfl) (AllL.cons_ (rfl) (AllL.cons_ (rfl) (AllL.cons_ (rfl) (AllL.cons_ (rfl) (AllL.cons_ (rfl) (AllL.cons_ ((congrArg (fun z => some (Value.bool z)) (by first | exact (fd_hit (by omega) e77).symm | exact (fd_miss (by omega) e77).symm))) (AllL.cons_ (rfl) (AllL.cons_ (rfl) (AllL.cons_ (rfl) (AllL.cons_ (rfl) (AllL.cons_ (rfl) (AllL.cons_ (rfl) (AllL.cons_ (rfl) (AllL.cons_ (rfl) (AllL.cons_ (rfl) (AllL.cons_ (rfl) (AllL.cons_ (rfl) (AllL.cons_ (rfl) (AllL.cons_ (rfl) (AllL.cons_ (rfl) (AllL.cons_ (rfl) (AllL.cons_ (rfl) (AllL.cons_ (rfl) (AllL.cons_ (rfl) (AllL.cons_ (rfl) (AllL.cons_ (rfl) (AllL.cons_ (rfl) (AllL.cons_ (rfl) (AllL.cons_ (rfl) (AllL.cons_ (rfl) (AllL.cons_ (rfl) (AllL.cons_ (rfl) (AllL.cons_ (rfl) (AllL.cons_ (rfl) (AllL.cons_ (rfl) (AllL.cons_ (rfl) (AllL.cons_ (rfl) (AllL.cons_ (rfl) (AllL.cons_ (rfl) (AllL.cons_ (rfl) (AllL.cons_ (rfl) (AllL.cons_ (rfl) (AllL.cons_ (rfl) (AllL.cons_ (rfl) (AllL.cons_ (rfl) (AllL.cons_ (rfl) (AllL.cons_ (rfl) (AllL.cons_ (rfl) (AllL.cons_ (rfl) (AllL.cons_ (rfl) (AllL.cons_ (rfl) (AllL.cons_ (rfl) (AllL.cons_ (rfl) (AllL.cons_ (rfl) (AllL.cons_ (rfl) (AllL.cons_ (rfl) (AllL.cons_ (rfl) trivial)))))))))))))))))))))))))))))))))))))))))))))))))))))))))))) (AllL.cons_ (rfl) (AllL.cons_ (rfl) (AllL.cons_ (rfl) (AllL.cons_ (rfl) (AllL.cons_ ((by first | (rw [fl_hit (by omega) e77]; done) | (rw [fl_miss (by omega) e77]; done) | (rw [fl_hit (by omega) e77]; rfl) | (rw [fl_miss (by omega) e77]; rfl))) (AllL.cons_ (rfl) (AllL.cons_ ((by first | (rw [fl_hit (by omega) e77]; done) | (rw [fl_miss (by omega) e77]; done) | (rw [fl_hit (by omega) e77]; rfl) | (rw [fl_miss (by omega) e77]; rfl))) trivial))))))) ?_
        exact hKc0 _ _ _ (by omega) ⟨i + 1, A84, b84, c84, rfl, rfl, rfl, (by omega), (by first | exact g86a | exact g84a), (by first | (rw [fl_miss (by omega) e77]; exact g86b) | (rw [fl_hit (by omega) e77]; exact g84b))⟩
       · -- cond 77 f
        have e77 : ((L.getD i default).id) ≠ ((nuI tk : Nat) : Int) := beq_eq_false_iff_ne.1 h77
        refine At.draws 8 [] [.q false [0, 1, 2, 3, 4, 5, 6], .e false 7] (by kernel_rfl) (by kernel_rfl) ?_
        refine At.wp (some 78) (P_fieldAddr0 (off := 33) rfl Try.underlying44 rfl sz42 rfl rfl) ?_
        refine At.wq (some 79) (Q_loadO (k := 8) rfl rfl Try.underlying42 rfl rfl (seg_get (i := 1) (p := 1) rfl LN rfl)) ?_
        refine At.wp (some 80) (P_fieldAddr0 (off := 33) rfl Try.underlying44 rfl sz42 rfl rfl) ?_
        refine At.wq (some 81) (Q_loadO (k := 2) rfl rfl Try.underlying42 rfl rfl (seg_get (i := 1) (p := 1) rfl LN rfl)) ?_
        refine At.wp (some 82) (P_move rfl rfl) ?_
        refine At.wp (some 83) (P_indexAddr_sl (b := b) (m := q) (j := i) rfl Try.underlying42 sz55 rfl (hA OG) rfl RO OG) ?_
        refine At.wq (some 84) (Q_loadEN (en := EntE) (k := 0) (j := i) (p := 0) (L := L) (cs := [[iV ((L.getD i default).id)], ((L.getD i default).psk).map u8V].flatten) (sz := 33) default rfl rfl rfl Try.underlying55 rfl sz55 rfl OG OG (List.take_of_length_le (Nat.le_of_eq (Enc.len _ _))) LN (by decide)) ?_
        refine At.wqn ?_
        refine At.we ?_
        refine S_buildSliceE (some 85) 85 (cs := [[iV ((L.getD i default).id)], ((L.getD i default).psk).map u8V].flatten) rfl Try.underlying42 sz55 ze55 rfl rfl LN (by decide) (by decide) (fun b85 => ?_)
        refine At.row 85 (⟨true, b85, 0, 55, encs EntE [(L.getD i default)], 0⟩) rfl (ent_self _) ?_
        refine At.wt rfl ?_
        refine At.s (S_appendE (en := EntE) (some 86) 84 (((flt ((nuI tk : Nat) : Int) (L.take i)) ++ [(L.getD i default)])) (l := (flt ((nuI tk : Nat) : Int) (L.take i))) (L := [(L.getD i default)]) (m := 1) (sz := 33) rfl rfl Try.underlying42 Try.underlying42 (.inr ⟨_, rfl⟩) sz55 by55 ze55 rfl rfl (fun h => ⟨g84a h, rfl⟩) LN OG OG (SrcE.all (en := EntE) (k := 85) (L := [(L.getD i default)]) rfl rfl (fun _ => rfl) (fun _ => ⟨rfl, rfl, rfl⟩) LN) OG OG rfl LN ?_)
        intro A86 b86 c86 g86a g86b
        refine At.p (some 87) (P_fieldAddr0 (off := 33) rfl Try.underlying44 rfl sz42 rfl rfl) ?_
        refine At.s (S_store none (k := 8) rfl rfl rfl sz42 rfl rfl rfl LN ?_)
        refine At.row 8 (⟨true, b8, 0, 44, [(key).map u8V, [iV next, .slice A86 (((flt ((nuI tk : Nat) : Int) (L.take i)) ++ [(L.getD i default)]).length) c86]].flatten, 0⟩) rfl (seg_set1 (x := [iV next, .slice A84 ((flt ((nuI tk : Nat) : Int) (L.take i)).length) c84]) (i := 1) (p := 1) rfl LN OG) ?_
        refine At.nil ?_
        refine At.inb_n ?_
        refine At.next ?_
        refine At.region ?_
        refine At.p (some 68) (P_move rfl rfl) ?_
        refine At.p (some 69) (P_add_i rfl rfl rfl (by omega)) ?_
        refine At.p (some 10) (P_assign rfl rfl) ?_
        refine At.nil ?_
        refine At.next ?_
        refine At.to [(0, _), (1, _), (2, _), (4, _), (5, _), (6, _), (7, _), (8, _), (9, .bool (fdB ((nuI tk : Nat) : Int) (L.take (i + 1)))), (10, _), (11, _), (12, _), (13, _), (14, _), (15, _), (16, _), (17, _), (18, _), (19, _), (21, _), (22, _), (23, _), (24, _), (25, _), (26, _), (27, _), (28, _), (29, _), (30, _), (31, _), (32, _), (33, _), (34, _), (35, _), (36, _), (37, _), (38, _), (39, _), (40, _), (41, _), (42, _), (43, _), (44, _), (45, _), (46, _), (47, _), (48, _), (49, _), (50, _), (51, _), (52, _), (53, _), (54, _), (55, _), (56, _), (58, _), (59, _), (60, _), (61, _), (62, _)] [(0, _), (1, _), (2, _), (4, _), (8, ⟨true, b8, 0, 44, [(key).map u8V, [iV next, .slice A86 ((flt ((nuI tk : Nat) : Int) (L.take (i + 1))).length) c86]].flatten, 0⟩), (46, _), (84, ⟨true, b86, 0, 55, encs EntE (flt ((nuI tk : Nat) : Int) (L.take (i + 1))), (c86 - ((flt ((nuI tk : Nat) : Int) (L.take (i + 1)))).length) * 33⟩)] (AllL.cons_ (rfl) (AllL.cons_ (rfl) (AllL.cons_ (rfl) (AllL.cons_ (rfl) (AllL.cons_ (rfl) (AllL.cons_ (rfl) (AllL.cons_ (rfl) (AllL.cons_ (rfl) (AllL.cons_ ((congrArg (fun z => some (Value.bool z)) (by first | exact (fd_hit (by omega) e77).symm | exact (fd_miss (by omega) e77).symm))) (AllL.cons_ (rfl) (AllL.cons_ (rfl) (AllL.cons_ (rfl) (AllL.cons_ (rfl) (AllL.cons_ (rfl) (AllL.cons_ (rfl) (AllL.cons_ (rfl) (AllL.cons_ (rfl) (AllL.cons_ (rfl) (AllL.cons_ (rfl) (AllL.cons_ (rfl) (AllL.cons_ (rfl) (AllL.cons_ (rfl) (AllL.cons_ (rfl) (AllL.cons_ (rfl) (AllL.cons_ (rfl) (AllL.cons_ (rfl) (AllL.cons_ (rfl) (AllL.cons_ (rfl) (AllL.cons_ (rfl) (AllL.cons_ (rfl) (AllL.cons_ (rfl) (AllL.cons_ (rfl) (AllL.cons_ (rfl) (AllL.cons_ (rfl) (AllL.cons_ (rfl) (AllL.cons_ (rfl) (AllL.cons_ (rfl) (AllL.cons_ (rfl) (AllL.cons_ (rfl) (AllL.cons_ (rfl) (AllL.cons_ (rfl) (AllL.cons_ (rfl) (AllL.cons_ (rfl) (AllL.cons_ (rfl) (AllL.cons_ (rfl) (AllL.cons_ (rfl) (AllL.cons_ (rfl) (AllL.cons_ (rfl) (AllL.cons_ (rfl) (AllL.cons_ (rfl) (AllL.cons_ (rfl) (AllL.cons_ (rfl) (AllL.cons_ (rfl) (AllL.cons_ (rfl) (AllL.cons_ (rfl) (AllL.cons_ (rfl) (AllL.cons_ (rfl) (AllL.cons_ (rfl) (AllL.cons_ (rfl) (AllL.cons_ (rfl) trivial)))))))))))))))))))))))))))))))))))))))))))))))))))))))))))) (AllL.cons_ (rfl) (AllL.cons_ (rfl) (AllL.cons_ (rfl) (AllL.cons_ (rfl) (AllL.cons_ ((by first | (rw [fl_hit (by omega) e77]; done) | (rw [fl_miss (by omega) e77]; done) | (rw [fl_hit (by omega) e77]; rfl) | (rw [fl_miss (by omega) e77]; rfl))) (AllL.cons_ (rfl) (AllL.cons_ ((by first | (rw [fl_hit (by omega) e77]; done) | (rw [fl_miss (by omega) e77]; done) | (rw [fl_hit (by omega) e77]; rfl) | (rw [fl_miss (by omega) e77]; rfl))) trivial))))))) ?_
        exact hKc0 _ _ _ (by omega) ⟨i + 1, A86, b86, c86, rfl, rfl, rfl, (by omega), (by first | exact g86a | exact g84a), (by first | (rw [fl_miss (by omega) e77]; exact g86b) | (rw [fl_hit (by omega) e77]; exact g84b))⟩
      · -- cond 67 f
       have e67 : ¬ (i : Int) < (n : Int) := of_decide_eq_false h67
       refine At.exit ?_
       refine At.thn_e ?_
       refine At.thn_e ?_
       refine At.inb_hit ?_
       refine At.next ?_
       refine At.seq ?_
       refine At.seq ?_
       obtain rfl : n = i := by omega
       have htn : L.take n = L := List.take_of_length_le (by omega)
       refine At.region ?_
       refine At.p (some 88) (P_move rfl rfl) ?_
       refine At.p (some 89) (P_not rfl rfl) ?_
       refine At.nil ?_
       refine At.next ?_
       refine At.cond rfl (fun h89 => ?_) (fun h89 => ?_)
       · -- cond 89 t
        have e89 : (fdB ((nuI tk : Nat) : Int) (L.take n)) = false := (by first | (simp; done) | simpa using h89)
        refine At.seq ?_
        refine At.region ?_
        refine At.p (some 90) (P_build_struct (cs := ([(List.replicate 32 0#8).map u8V, [iV 0, .slice none 0 0]].flatten).toArray) (parts := _) (vs := []) rfl Try.underlying44 ze44 pl44 rfl (by show Instr.fill _ ([(List.replicate 32 0#8).map u8V, [iV 0], [.slice none 0 0]].flatten).toArray _ = _; exact fill_end (by simp))) ?_
        refine At.s (S_storeA none (k := 4) (vs := [(List.replicate 32 0#8).map u8V, [iV 0, .slice none 0 0]].flatten) rfl rfl rfl (by rw [sz44]; exact congrArg some LN) rfl (one_flatc (one_map (fun _ => rfl)) (one_flatc (one_cons rfl (one_cons rfl one_nil)) one_flat0)) NG rfl LN ?_)
        refine At.p (some 5) (P_assign rfl rfl) ?_
        refine At.p (some 6) (P_assign rfl rfl) ?_
        refine At.nil ?_
        refine At.next ?_
        refine At.ret ?_
        refine At.thn_r ?_
        have hno : nuOk key next tk = true := nuOk_ye (by omega) (by simp_all) (by omega)
        rw [htn] at e89
        have z5 := ruE_11 hno e89
        obtain ⟨z1, z2, z3, z4⟩ := ru_f (key := key) (nx := next) (L := L) (tk := tk) (by rw [z5]; decide)
        refine At.empty 990 0 55 ?_
        refine At.giveV (.inl rfl) [990] (rows' := [_]) (ResV.three rfl (ResOne.cellA (k := 4) rfl Try.underlying44 rfl sz44 LN rfl) (ResOne.tmp rfl) (ResOne.tmp rfl)) rfl (by simp) (by simp) ?_
        exact ⟨none, 0, 0, (fun h => absurd h (Nat.lt_irrefl 0)), (by simp only [z1, z2, z3, z4, z5, htn]; exact Nat.le_refl _), (by first | (rw [z1, z2, z3, z4, z5, htn]; try rfl; done) | (rw [← z1, ← z2, ← z3, ← z4, ← z5, ← htn]; try rfl; done) | (simp only [z1, z2, z3, z4, z5, htn]; try rfl; done) | (simp only [← z1, ← z2, ← z3, ← z4, ← z5, ← htn]; try rfl; done) | rfl), (by first | (rw [z1, z2, z3, z4, z5, htn]; try rfl; done) | (rw [← z1, ← z2, ← z3, ← z4, ← z5, ← htn]; try rfl; done) | (simp only [z1, z2, z3, z4, z5, htn]; try rfl; done) | (simp only [← z1, ← z2, ← z3, ← z4, ← z5, ← htn]; try rfl; done) | rfl)⟩
       · -- cond 89 f
        have e89 : (fdB ((nuI tk : Nat) : Int) (L.take n)) = true := (by first | (simp; done) | simpa using h89)
        refine At.skip ?_
        refine At.next ?_
        refine At.seq ?_
        refine At.region ?_
        refine At.q (some 91) (Q_loadA (k := 8) rfl rfl Try.underlying44 rfl sz44 LN rfl) ?_
        refine At.p (some 92) (P_move rfl rfl) ?_
        refine At.s (S_storeA none (k := 4) (vs := [(key).map u8V, [iV next, .slice A84 ((flt ((nuI tk : Nat) : Int) (L.take n)).length) c84]].flatten) rfl rfl rfl (by rw [sz44]; exact congrArg some LN) rfl (one_flatc (one_map (fun _ => rfl)) (one_flatc (one_cons rfl (one_cons rfl one_nil)) one_flat0)) NG rfl LN ?_)
        refine At.p (some 5) (P_assign rfl rfl) ?_
        refine At.p (some 6) (P_assign rfl rfl) ?_
        refine At.nil ?_
        refine At.next ?_
        refine At.ret ?_
        have hno : nuOk key next tk = true := nuOk_ye (by omega) (by simp_all) (by omega)
        rw [htn] at e89 g84b
        have z5 := ruE_0 hno e89
        obtain ⟨z1, z2, z3, z4⟩ := ru_t z5
        refine At.giveV (.inl rfl) [84] (rows' := [_]) (ResV.three rfl (ResOne.cellA (k := 4) rfl Try.underlying44 rfl sz44 LN rfl) (ResOne.tmp rfl) (ResOne.tmp rfl)) rfl (by simp) (by simp) ?_
        exact ⟨A84, b84, c84, g84a, (by simp only [z1, z2, z3, z4, z5, htn]; first | omega | exact Nat.le_refl _ | (simp; done) | (simp <;> omega)), (by first | (rw [z1, z2, z3, z4, z5, htn]; try rfl; done) | (rw [← z1, ← z2, ← z3, ← z4, ← z5, ← htn]; try rfl; done) | (simp only [z1, z2, z3, z4, z5, htn]; try rfl; done) | (simp only [← z1, ← z2, ← z3, ← z4, ← z5, ← htn]; try rfl; done) | rfl), (by first | (rw [z1, z2, z3, z4, z5, htn]; try rfl; done) | (rw [← z1, ← z2, ← z3, ← z4, ← z5, ← htn]; try rfl; done) | (simp only [z1, z2, z3, z4, z5, htn]; try rfl; done) | (simp only [← z1, ← z2, ← z3, ← z4, ← z5, ← htn]; try rfl; done) | rfl)⟩
   ·
    have eg2 : ¬ (tkT key ((nuI tk : Nat) : Int)) = tk := (by first | (simp; done) | simpa using g2)
    refine At.wgn (some 52) (t := 51) rfl g2 rfl rfl ?_
    refine At.wgn (some 53) (t := 51) rfl g2 rfl rfl ?_
    refine At.wgn (some 54) (t := 51) rfl g2 rfl rfl ?_
    refine At.wqn ?_
    refine At.wt rfl ?_
    refine At.gn (some 55) (t := 51) rfl g2 rfl rfl ?_
    refine At.p (some 56) (P_pick_t rfl rfl g2 rfl) ?_
    refine At.nil ?_
    refine At.next ?_
    refine At.cond rfl (fun _ => ?_) (fun h => absurd (h.symm.trans rfl) (by decide))
    refine At.seq ?_
    refine At.region ?_
    refine At.p (some 57) (P_build_struct (cs := ([(List.replicate 32 0#8).map u8V, [iV 0, .slice none 0 0]].flatten).toArray) (parts := _) (vs := []) rfl Try.underlying44 ze44 pl44 rfl (by show Instr.fill _ ([(List.replicate 32 0#8).map u8V, [iV 0], [.slice none 0 0]].flatten).toArray _ = _; exact fill_end (by simp))) ?_
    refine At.s (S_storeA none (k := 4) (vs := [(List.replicate 32 0#8).map u8V, [iV 0, .slice none 0 0]].flatten) rfl rfl rfl (by rw [sz44]; exact congrArg some LN) rfl (one_flatc (one_map (fun _ => rfl)) (one_flatc (one_cons rfl (one_cons rfl one_nil)) one_flat0)) NG rfl LN ?_)
    refine At.p (some 5) (P_assign rfl rfl) ?_
    refine At.p (some 6) (P_assign rfl rfl) ?_
    refine At.nil ?_
    refine At.next ?_
    refine At.ret ?_
    refine At.thn_r ?_
    have hno : nuOk key next tk = false := nuOk_no (fun h => by first | omega | (have h8 := h.1; simp_all))
    have z5 := ruE_13 (L := L) hno
    obtain ⟨z1, z2, z3, z4⟩ := ru_f (key := key) (nx := next) (L := L) (tk := tk) (by rw [z5]; decide)
    refine At.empty 990 0 55 ?_
    refine At.giveV (.inl rfl) [990] (rows' := [_]) (ResV.three rfl (ResOne.cellA (k := 4) rfl Try.underlying44 rfl sz44 LN rfl) (ResOne.tmp rfl) (ResOne.tmp rfl)) rfl (by simp) (by simp) ?_
    exact ⟨none, 0, 0, (fun h => absurd h (Nat.lt_irrefl 0)), (by simp only [z1, z2, z3, z4, z5]; exact Nat.le_refl _), (by first | (rw [z1, z2, z3, z4, z5]; try rfl; done) | (rw [← z1, ← z2, ← z3, ← z4, ← z5]; try rfl; done) | (simp only [z1, z2, z3, z4, z5]; try rfl; done) | (simp only [← z1, ← z2, ← z3, ← z4, ← z5]; try rfl; done) | rfl), (by first | (rw [z1, z2, z3, z4, z5]; try rfl; done) | (rw [← z1, ← z2, ← z3, ← z4, ← z5]; try rfl; done) | (simp only [z1, z2, z3, z4, z5]; try rfl; done) | (simp only [← z1, ← z2, ← z3, ← z4, ← z5]; try rfl; done) | rfl)⟩
 ·
  have eg1 : (ntk : Int) ≠ 16 := bne_iff_ne.1 g1
  refine At.gn (some 15) (t := 14) rfl g1 rfl rfl ?_
  refine At.gn (some 16) (t := 14) rfl g1 rfl rfl ?_
  refine At.gn (some 17) (t := 14) rfl g1 rfl rfl ?_
  refine At.gn (some 18) (t := 14) rfl g1 rfl rfl ?_
  refine At.p (some 19) (P_pick_t rfl rfl g1 rfl) ?_
  refine At.nil ?_
  refine At.next ?_
  refine At.cond rfl (fun _ => ?_) (fun h => absurd (h.symm.trans rfl) (by decide))
  refine At.seq ?_
  refine At.region ?_
  refine At.p (some 20) (P_build_struct (cs := ([(List.replicate 32 0#8).map u8V, [iV 0, .slice none 0 0]].flatten).toArray) (parts := _) (vs := []) rfl Try.underlying44 ze44 pl44 rfl (by show Instr.fill _ ([(List.replicate 32 0#8).map u8V, [iV 0], [.slice none 0 0]].flatten).toArray _ = _; exact fill_end (by simp))) ?_
  refine At.s (S_storeA none (k := 4) (vs := [(List.replicate 32 0#8).map u8V, [iV 0, .slice none 0 0]].flatten) rfl rfl rfl (by rw [sz44]; exact congrArg some LN) rfl (one_flatc (one_map (fun _ => rfl)) (one_flatc (one_cons rfl (one_cons rfl one_nil)) one_flat0)) NG rfl LN ?_)
  refine At.p (some 5) (P_assign rfl rfl) ?_
  refine At.p (some 6) (P_assign rfl rfl) ?_
  refine At.nil ?_
  refine At.next ?_
  refine At.ret ?_
  refine At.thn_r ?_
  have h127 : (127#8).toNat = 127 := rfl
  have hno : nuOk key next tk = false := by first | exact nuOk_f (by omega) | exact nuOk_hi (by omega)
  have z5 := ruE_13 (L := L) hno
  obtain ⟨z1, z2, z3, z4⟩ := ru_f (key := key) (nx := next) (L := L) (tk := tk) (by rw [z5]; decide)
  refine At.empty 990 0 55 ?_
  refine At.giveV (.inl rfl) [990] (rows' := [_]) (ResV.three rfl (ResOne.cellA (k := 4) rfl Try.underlying44 rfl sz44 LN rfl) (ResOne.tmp rfl) (ResOne.tmp rfl)) rfl (by simp) (by simp) ?_
  exact ⟨none, 0, 0, (fun h => absurd h (Nat.lt_irrefl 0)), (by simp only [z1, z2, z3, z4, z5]; exact Nat.le_refl _), (by first | (rw [z1, z2, z3, z4, z5]; try rfl; done) | (rw [← z1, ← z2, ← z3, ← z4, ← z5]; try rfl; done) | (simp only [z1, z2, z3, z4, z5]; try rfl; done) | (simp only [← z1, ← z2, ← z3, ← z4, ← z5]; try rfl; done) | rfl), (by first | (rw [z1, z2, z3, z4, z5]; try rfl; done) | (rw [← z1, ← z2, ← z3, ← z4, ← z5]; try rfl; done) | (simp only [z1, z2, z3, z4, z5]; try rfl; done) | (simp only [← z1, ← z2, ← z3, ← z4, ← z5]; try rfl; done) | rfl)⟩


end Go.Proofs.Ytihciioopdalnaa

