import Derived.Test.YtihciioopdalnaaTR1
import Derived.Test.YtihciioopdalnaaG1
import Derived.Test.YtihciioopdalnaaXT5
namespace Go.Proofs.Ytihciioopdalnaa
set_option maxRecDepth 20000
set_option linter.unusedVariables false
set_option linter.unusedSimpArgs false
open Go.SE Go.RowKit
theorem ris_iff {nx : Int} : ∀ {last : Int} {L : List Ent}, risB nx last L = true ↔ (∀ e ∈ L, last < e.id ∧ e.id < nx) ∧ L.Pairwise (fun a b => a.id < b.id)
 | last, [] => by simp [risB]
 | last, x :: L => by
  rw [risB, Bool.and_eq_true, Bool.and_eq_true, decide_eq_true_eq, decide_eq_true_eq, ris_iff (last := x.id) (L := L), List.pairwise_cons]
  constructor
  ·
   rintro ⟨⟨h1, h2⟩, h3, h4⟩
   refine ⟨fun e he => ?_, fun e he => (h3 e he).1, h4⟩
   rcases List.mem_cons.1 he with rfl | he
   · exact ⟨h1, h2⟩
   ·
    have := h3 e he
    omega
  ·
   rintro ⟨h1, h2, h3⟩
   have := h1 x List.mem_cons_self
   exact ⟨this, fun e he => ⟨h2 e he, (h1 e (List.mem_cons_of_mem _ he)).2⟩, h3⟩
theorem right_iff {nx : Int} {L : List Ent} : rightT nx L = true ↔ (0 ≤ nx ∧ nx ≤ 2147483647 ∧ L.length ≤ 8) ∧ (∀ e ∈ L, -1 < e.id ∧ e.id < nx) ∧ L.Pairwise (fun a b => a.id < b.id) := by
 rw [rightT, Bool.and_eq_true, decide_eq_true_eq, ris_iff]
/-- The numbers that are used up aren't there, and were given. -/
def UsedOk (U : List Int) (N : Nat) (L : List Ent) : Prop := ∀ u ∈ U, u < N ∧ ∀ e ∈ L, e.id ≠ u
theorem mint_right {N : Nat} {L : List Ent} (hr : rightT (N : Int) L = true) (hN : N ≤ 1000) (p : List (BitVec 8)) : rightT ((N + 1 : Nat) : Int) (mintL L (N : Int) p) = true := by
 obtain ⟨h1, h2, h3⟩ := right_iff.1 hr
 have hall : ∀ e ∈ L ++ [mkEnt (N : Int) p], -1 < e.id ∧ e.id < ((N + 1 : Nat) : Int) := fun e he => by
  rcases List.mem_append.1 he with he | he
  ·
   have := h2 e he
   omega
  ·
   rw [List.mem_singleton.1 he, mkEnt_id]
   omega
 have hp : (L ++ [mkEnt (N : Int) p]).Pairwise (fun a b => a.id < b.id) := by
  rw [List.pairwise_append]
  refine ⟨h3, List.pairwise_singleton _ _, fun a ha b hb => ?_⟩
  rw [List.mem_singleton.1 hb, mkEnt_id]
  exact (h2 a ha).2
 refine right_iff.2 ⟨⟨by omega, by omega, ?_⟩, ?_⟩
 ·
  rw [mintL_len]
  split <;> omega
 ·
  unfold mintL
  split
  · exact ⟨fun e he => hall e (List.mem_of_mem_eraseIdx he), hp.sublist (List.eraseIdx_sublist _ _)⟩
  · exact ⟨hall, hp⟩
theorem mint_used {U : List Int} {N : Nat} {L : List Ent} (h : UsedOk U N L) (p : List (BitVec 8)) : UsedOk U (N + 1) (mintL L (N : Int) p) := fun u hu => by
 obtain ⟨h1, h2⟩ := h u hu
 refine ⟨by omega, fun e he => ?_⟩
 have hm : e ∈ L ++ [mkEnt (N : Int) p] := by
  unfold mintL at he
  split at he
  · exact List.mem_of_mem_eraseIdx he
  · exact he
 rcases List.mem_append.1 hm with hm | hm
 · exact h2 e hm
 ·
  rw [List.mem_singleton.1 hm, mkEnt_id]
  omega
theorem mint_0 {L : List Ent} {nx : Int} {p : List (BitVec 8)} (h : ¬ 8 < L.length + 1) : (L ++ [mkEnt nx p]).drop 0 = mintL L nx p := by rw [mintL, if_neg h]; rfl
theorem mint_1 {L : List Ent} {nx : Int} {p : List (BitVec 8)} (h : 8 < L.length + 1) : (L ++ [mkEnt nx p]).drop 1 = mintL L nx p := by
 rw [mintL, if_pos h]
 cases hl : L ++ [mkEnt nx p] with
 | nil => rfl
 | cons a l => rfl
theorem mint_l0 {L : List Ent} {nx : Int} {p : List (BitVec 8)} (h : ¬ 8 < L.length + 1) : (mintL L nx p).length = L.length + 1 := by rw [mintL, if_neg h, List.length_append]; rfl
theorem mint_l1 {L : List Ent} {nx : Int} {p : List (BitVec 8)} (h : 8 < L.length + 1) : (mintL L nx p).length = L.length := by rw [← mint_1 h, List.length_drop, List.length_append]; simp
/-- One is used up. -/
theorem use_ok {key : List (BitVec 8)} {N : Nat} {L : List Ent} {X : List (BitVec 8)} {U : List Int} (hr : rightT (N : Int) L = true) (hU : UsedOk U N L) (h0 : usE key (N : Int) L X = 0) :
  usK key (N : Int) L X = key ∧ usN key (N : Int) L X = (N : Int) ∧ usI key (N : Int) L X = ((nuI X : Nat) : Int) ∧ ruK key (N : Int) L X = key ∧ ruN key (N : Int) L X = (N : Int) ∧ ruI key (N : Int) L X = ((nuI X : Nat) : Int) ∧ ruL key (N : Int) L X = usL key (N : Int) L X ∧
   ((nuI X : Nat) : Int) ∉ U ∧ rightT (N : Int) (usL key (N : Int) L X) = true ∧ UsedOk (U ++ [((nuI X : Nat) : Int)]) N (usL key (N : Int) L X) := by
 obtain ⟨hE, hS⟩ := us_ru (key := key) (tk := X) hr
 obtain ⟨a1, a2, a3, a4⟩ := us_t h0
 obtain ⟨b1, b2, b3, b4⟩ := ru_t (hE.symm.trans h0)
 have hi : nuOk key (N : Int) X = true ∧ idxS ((nuI X : Nat) : Int) L < L.length := by
  rw [usE, if_pos hr] at h0
  split at h0
  ·
   split at h0
   · exact ⟨by assumption, by assumption⟩
   · cases h0
  · cases h0
 obtain ⟨h1, h2, h3⟩ := right_iff.1 hr
 have hrb : risB (N : Int) (-1) L = true := ris_iff.2 ⟨h2, h3⟩
 have hfl := fl_erase hrb hi.2
 have hlt : ((nuI X : Nat) : Int) < N := by
  have := hi.1
  unfold nuOk at this
  simp only [Bool.and_eq_true, decide_eq_true_eq] at this
  exact this.2.1
 have hmem : ∃ e ∈ L, e.id = ((nuI X : Nat) : Int) := by
  have := fd_idx ((nuI X : Nat) : Int) L
  rw [decide_eq_true hi.2] at this
  unfold fdB at this
  obtain ⟨e, he, h⟩ := List.any_eq_true.1 this
  exact ⟨e, he, of_decide_eq_true h⟩
 have hsub : ∀ e ∈ usL key (N : Int) L X, e ∈ L ∧ e.id ≠ ((nuI X : Nat) : Int) := fun e he => by
  rw [a3, ← hfl] at he
  unfold flt at he
  obtain ⟨g1, g2⟩ := List.mem_filter.1 he
  exact ⟨g1, by simpa using g2⟩
 refine ⟨a1, a2, a4, b1, b2, b4, by rw [b3, a3, hfl], fun hm => ?_, ?_, fun u hu => ?_⟩
 ·
  obtain ⟨e, he, hid⟩ := hmem
  exact (hU _ hm).2 e he hid
 ·
  refine right_iff.2 ⟨⟨h1.1, h1.2.1, ?_⟩, fun e he => h2 e (hsub e he).1, ?_⟩
  ·
   have := usL_le key (N : Int) L X
   omega
  ·
   rw [a3]
   exact h3.sublist (List.eraseIdx_sublist _ _)
 ·
  rcases List.mem_append.1 hu with hu | hu
  ·
   obtain ⟨g1, g2⟩ := hU u hu
   exact ⟨g1, fun e he => g2 e (hsub e he).1⟩
  ·
   rw [List.mem_singleton.1 hu]
   exact ⟨hlt, fun e he => (hsub e he).2⟩
theorem sa_self (k : List (BitVec 8)) (n : Int) (l : List Ent) : saB k n l k n l = true := sa_t rfl rfl rfl
theorem viewE {ow : Bool} {b o rest t : Nat} {ty ty' : TypeId} {WL L : List Ent} (h : WL.drop o = L) : View ⟨ow, b, 0, ty, encs EntE WL, rest⟩ ⟨false, b, o * 33, ty', encs EntE L, t⟩ := by
 subst h
 refine ⟨rfl, rfl, o * 33, (Nat.zero_add _).symm, fun i v hi => ?_⟩
 have hi : (encs EntE (WL.drop o))[i]? = some v := hi
 rw [← encs_drop, List.getElem?_drop] at hi
 exact hi
theorem getD_drop {WL L : List Ent} {o k : Nat} (h : WL.drop o = L) : WL.getD (o + k) default = L.getD k default := by
 subst h
 rw [List.getD_eq_getElem?_getD, List.getD_eq_getElem?_getD, List.getElem?_drop]
theorem Q_strB {P : Program} {E : Env} {fr : Fr} {H : Hp} {o : Oper} {x : Operand} {s d e : TypeId} (b i : Nat) {ty : TypeId} {es : List BE} {y : BE} (hy : es.getD i default = y) (hF : FamOk H (famB b ty es)) (hi : i < es.length) (hes : ∀ e ∈ es, e.ok) (ho : o.op = .convert s d x) (hs : P.underlying s = some (.slice e)) (he : P.underlying e = some (.int .u8)) (hd : P.underlying d = some .string)
  (hx : fr.ev x = some y.v) : QStep P E fr H o (strV y.l) := by
 subst hy
 have hok := hes _ (getD_mem hi)
 refine Q_strN (l := (es.getD i default).l) (n := (es.getD i default).l.length) (k := lf b i) (j := 0) rfl ho hs he hd hx (fun h => BE.adr hok h) (fun _ => ⟨hF i (dlt_iff.2 hi), rfl, rfl⟩) ?_
 show (((es.getD i default).l.map u8V).drop 0).take _ = _
 rw [List.drop_zero, List.take_of_length_le (by simp)]
structure ActT where
 w : Int
 i : Int
 p : BitVec 8
instance : Inhabited ActT := ⟨⟨0, 0, 0#8⟩⟩
def ActTN : Enc ActT where
 f e := [iV e.w, iV e.i, u8V e.p]
 sz := 3
 pos := by decide
 len _ := rfl
 one e u hu := by
  simp only [List.mem_cons, List.not_mem_nil, or_false] at hu
  rcases hu with rfl | rfl | rfl <;> rfl
theorem ent_ids {nx : Int} {L : List Ent} (h : rightT nx L = true) : ∀ e ∈ L, -9223372036854775808 ≤ e.id ∧ e.id ≤ 9223372036854775807 := fun e he => by
 obtain ⟨h1, h2, _⟩ := right_iff.1 h
 have := h2 e he
 omega
theorem srcD {P : Program} {E : Env} {fr : Fr} {H : Hp} {y : Operand} {m o : Nat} {WL L : List Ent} (h : WL.drop o = L) (s : Src P E fr H 33 y m (encs EntE (WL.drop o))) : Src P E fr H 33 y m (encs EntE L) := h ▸ s

attribute [local irreducible] macS sumS
attribute [local irreducible] tkT rightT risB lastId
attribute [local irreducible] nuI nuOk idxS idxI mintL miE miK miN miL miI usE usK usN usL usI knN saB fdB flt ruE ruK ruN ruL ruI
attribute [local irreducible] UsedOk
set_option maxHeartbeats 8000000 in
theorem l_Rows {key : List (BitVec 8)} {L0 : List ActT} {Ar : Option Addr} {nr c b q : Nat} (hkey : key.length = 32) (hL : L0.length = nr) (hA : 0 < nr → Ar = some ⟨b, q, none⟩) :
  Con Try.prog 5 [aggK key, .slice Ar nr c] [⟨false, b, q, 0, encs ActTN L0, 0⟩] (fun v rs => v = .bool true ∧ rs = []) := by
 refine Con.enter Try.func5 Try.ntmps5 (Nat.le_of_ble_eq_true rfl) rfl fun w => ?_
 refine At.seq ?_
 refine At.region ?_
 refine At.s (S_box (some 2) 2 (zs := (key).map u8V) rfl rfl rfl (fun b2 => ?_))
 refine At.p (some 4) (P_assign rfl rfl) ?_
 refine At.nil ?_
 refine At.next ?_
 refine At.seq ?_
 refine At.ord [.q (aggK key), .q (.agg ([(key).map u8V, [iV 0, .slice none 0 0]].flatten).toArray), .q (aggK key), .q (.agg ([(key).map u8V, [iV 0, .slice none 0 0]].flatten).toArray), .al 5 40 ([(List.replicate 32 0#8).map u8V, [iV 0, .slice none 0 0]].flatten), .al 6 44 ([(List.replicate 32 0#8).map u8V, [iV 0, .slice none 0 0]].flatten), .st 5 none 40 ([(key).map u8V, [iV 0, .slice none 0 0]].flatten) 0, .st 6 none 44 ([(key).map u8V, [iV 0, .slice none 0 0]].flatten) 0] [0, 1, 2, 3, 4, 5, 6, 7] (by kernel_rfl) (by kernel_rfl) (by kernel_rfl) (by kernel_rfl) (by kernel_rfl) ?_ (fun Aq => ?_)
 ·
  refine ⟨?_, ?_, ?_, ?_, ?_, ?_, ?_, ?_⟩
  ·
   intro Lq Aq fq hq Iq Rq
   exact OGoal.q rfl (OStep.weak (sl := [(2, _)]) (rw_ := [(2, _)]) (AllL.cons_ (Iq.init _ _ rfl (by kernel_rfl)) trivial) (AllL.cons_ (Iq.get0 Rq rfl (by kernel_rfl)) trivial) (QStep.o (Q_loadA (k := 2) rfl rfl Try.underlying23 rfl sz23 LN rfl)))
  ·
   intro Lq Aq fq hq Iq Rq
   exact OGoal.q rfl (OStep.weak (sl := [(24, _)]) (rw_ := []) (AllL.cons_ (Iq.slotD Rq 0 (by kernel_rfl) rfl rfl) trivial) trivial (O_call [] (vs := [_]) rfl en24 rfl V0 (c_TNew (key := key) LN)))
  ·
   intro Lq Aq fq hq Iq Rq
   exact OGoal.q rfl (OStep.weak (sl := [(2, _)]) (rw_ := [(2, _)]) (AllL.cons_ (Iq.init _ _ rfl (by kernel_rfl)) trivial) (AllL.cons_ (Iq.get0 Rq rfl (by kernel_rfl)) trivial) (QStep.o (Q_loadA (k := 2) rfl rfl Try.underlying23 rfl sz23 LN rfl)))
  ·
   intro Lq Aq fq hq Iq Rq
   exact OGoal.q rfl (OStep.weak (sl := [(26, _)]) (rw_ := [(0, _)]) (AllL.cons_ (Iq.slotD Rq 2 (by kernel_rfl) rfl rfl) trivial) (AllL.cons_ (Iq.get0 Rq rfl (by kernel_rfl)) trivial) (PStep.o (P_build_struct (cs := ([(key).map u8V, [iV 0, .slice none 0 0]].flatten).toArray) (parts := _) (vs := [(0, _)]) rfl Try.underlying44 ze44 pl44 rfl (by show Instr.fill _ ([(List.replicate 32 0#8).map u8V, [iV 0], [.slice none 0 0]].flatten).toArray _ = _; refine fill_seg (k := 0) (vs := (key).map u8V) rfl rfl LN rfl LN LN ?_; exact fill_end (by simp)))))
  ·
   intro Lq Aq fq hq Iq Rq
   exact OGoal.al rfl rfl ze40 rfl
  ·
   intro Lq Aq fq hq Iq Rq
   exact OGoal.al rfl rfl ze44 rfl
  ·
   intro Lq Aq fq hq Iq Rq
   exact OGoal.st rfl (S_storeA none (k := 5) (vs := [(key).map u8V, [iV 0, .slice none 0 0]].flatten) rfl (Iq.slotD Rq 4 (by kernel_rfl) rfl rfl) (Iq.slotD Rq 1 (by kernel_rfl) rfl rfl) (by rw [sz40]; exact congrArg some LN) rfl (one_flatc (one_map (fun _ => rfl)) (one_flatc (one_cons rfl (one_cons rfl one_nil)) one_flat0)) NG (Iq.getA Rq 4 (by kernel_rfl) rfl) LN ⟨rfl, rfl⟩)
  ·
   intro Lq Aq fq hq Iq Rq
   exact OGoal.st rfl (S_storeA none (k := 6) (vs := [(key).map u8V, [iV 0, .slice none 0 0]].flatten) rfl (Iq.slotD Rq 5 (by kernel_rfl) rfl rfl) (Iq.slotD Rq 3 (by kernel_rfl) rfl rfl) (by rw [sz44]; exact congrArg some LN) rfl (one_flatc (one_map (fun _ => rfl)) (one_flatc (one_cons rfl (one_cons rfl one_nil)) one_flat0)) NG (Iq.getA Rq 5 (by kernel_rfl) rfl) LN ⟨rfl, rfl⟩)
 ·
  refine At.into (l := [(1, .slice Ar nr c), (2, ptr b2 0), (4, .bool false), (5, ptr (Aq 5) 0), (6, ptr (Aq 6) 0)]) (m := [(0, ⟨false, b, q, 0, encs ActTN L0, 0⟩), (2, ⟨true, b2, 0, 23, (key).map u8V, 0⟩), (5, ⟨true, (Aq 5), 0, 40, [(key).map u8V, [iV 0, .slice none 0 0]].flatten, 0⟩), (6, ⟨true, (Aq 6), 0, 44, [(key).map u8V, [iV 0, .slice none 0 0]].flatten, 0⟩)]) ?_ rfl rfl
  generalize Aq 5 = b5
  generalize Aq 6 = b6
  clear Aq
  refine At.next ?_
  refine At.seq ?_
  refine At.region ?_
  refine At.s (S_makeMap (some 28) 7 rfl (fun b7 => ?_))
  refine At.p (some 7) (P_assign rfl rfl) ?_
  refine At.nil ?_
  refine At.next ?_
  refine At.seq ?_
  refine At.seq ?_
  refine At.region ?_
  refine At.p (some 8) (P_assign rfl rfl) ?_
  refine At.nil ?_
  refine At.next ?_
  refine At.block ?_
  refine At.empty 501 0 96 ?_
  refine At.empty 601 0 55 ?_
  refine At.loopx (I := fun m fr H => ∃ (i : Nat) (N : Nat) (L WL : List Ent) (o : Nat) (U : List Int) (Ax : Option Addr) (bx cx : Nat) (Aw : Option Addr) (bw cw rw : Nat), m = 60 - i ∧ fr = frOf [(1, .slice Ar nr c), (2, ptr b2 0), (5, ptr b5 0), (6, ptr b6 0), (7, .map (some b7)), (8, iV (i : Int))] ∧ H = hOf [(0, ⟨false, b, q, 0, encs ActTN L0, 0⟩), (2, ⟨true, b2, 0, 23, (key).map u8V, 0⟩), (5, ⟨true, b5, 0, 40, [(key).map u8V, [iV (N : Int), .slice Ax L.length cx]].flatten, 0⟩), (6, ⟨true, b6, 0, 44, [(key).map u8V, [iV (N : Int), .slice Aw L.length cw]].flatten, 0⟩), (7, (mRow b7 U)), (501, ⟨true, bx, 0, 96, encs EntE L, (cx - (L).length) * 33⟩), (601, ⟨true, bw, 0, 55, encs EntE WL, rw⟩)] ∧ (i ≤ 60) ∧ (N ≤ i) ∧ (rightT (N : Int) L = true) ∧ (UsedOk U N L) ∧ (0 < cx → Ax = some ⟨bx, 0, none⟩) ∧ (L.length ≤ cx) ∧ (0 < L.length → Aw = some ⟨bw, o * 33, none⟩) ∧ (WL.drop o = L) ∧ (o + L.length = WL.length) ∧ (L.length ≤ cw)) ?_ ?_
  ·
   intro Kc0 hKc0
   refine At.to [(1, _), (2, _), (5, _), (6, _), (7, _), (8, _)] [(0, _), (2, _), (5, _), (6, _), (7, _), (501, _), (601, _)] (AllL.cons_ (rfl) (AllL.cons_ (rfl) (AllL.cons_ (rfl) (AllL.cons_ (rfl) (AllL.cons_ (rfl) (AllL.cons_ (rfl) trivial)))))) (AllL.cons_ (rfl) (AllL.cons_ (rfl) (AllL.cons_ (rfl) (AllL.cons_ (rfl) (AllL.cons_ (rfl) (AllL.cons_ (rfl) (AllL.cons_ (rfl) trivial))))))) ?_
   exact hKc0 _ _ _ ⟨0, 0, ([] : List Ent), ([] : List Ent), 0, ([] : List Int), none, 0, 0, none, 0, 0, 0, rfl, rfl, rfl, (by omega), (by omega), (by first | rfl | exact right0), (by unfold UsedOk; exact fun u hu => nomatch hu), (fun h => absurd h (Nat.lt_irrefl 0)), (Nat.le_refl _), (fun h => absurd h (Nat.lt_irrefl 0)), rfl, rfl, (Nat.le_refl _)⟩
  ·
   rintro m fr H ⟨i, N, L, WL, o, U, Ax, bx, cx, Aw, bw, cw, rw, rfl, rfl, rfl, hi, hN, hr, hU, hAx, hcx, hAw, hWL, hol, hcw⟩ Kc0 hKc0
   have hr8 := rt_t hr
   have hids := ent_ids hr
   refine At.seq ?_
   refine At.seq ?_
   refine At.region ?_
   refine At.p (some 29) (P_move rfl rfl) ?_
   refine At.p (some 30) (P_move rfl rfl) ?_
   refine At.p (some 31) (P_len_sl rfl rfl ⟨_, Try.underlying37⟩ rfl) ?_
   refine At.p (some 32) (P_cmp rfl rfl rfl rfl rfl rfl) ?_
   refine At.p (some 33) (P_move rfl rfl) ?_
   refine At.gsplit (t := 33) (want := true) rfl (fun g1 => ?_) (fun g1 => ?_)
   ·
    have eg1 : (i : Int) < (nr : Int) := of_decide_eq_true g1
    refine At.gy (t := 33) rfl g1 rfl rfl ?_
    refine At.p (some 34) (P_move rfl rfl) ?_
    refine At.gy (t := 33) rfl g1 rfl rfl ?_
    refine At.p (some 35) (P_cmp rfl rfl rfl rfl rfl rfl) ?_
    refine At.p (some 36) (P_pick_t rfl rfl g1 rfl) ?_
    refine At.nil ?_
    refine At.next ?_
    refine At.cond rfl (fun h36 => ?_) (fun h36 => ?_)
    · -- cond 36 t
     have e36 : (i : Int) < 60 := of_decide_eq_true h36
     refine At.skip ?_
     refine At.next ?_
     refine At.seq ?_
     refine At.block ?_
     refine At.seq ?_
     refine At.region ?_
     refine At.p (some 39) (P_move rfl rfl) ?_
     refine At.p (some 40) (P_move rfl rfl) ?_
     refine At.p (some 41) (P_indexAddr_sl (b := b) (m := q) (j := i) rfl Try.underlying37 sz47 rfl (hA OG) rfl RO OG) ?_
     refine At.q (some 42) (Q_loadEN (en := ActTN) (k := 0) (j := i) (p := 0) (L := L0) (cs := [iV ((L0.getD i default).w), iV ((L0.getD i default).i), u8V ((L0.getD i default).p)]) (sz := 3) default rfl rfl rfl Try.underlying47 rfl sz47 rfl OG OG (List.take_of_length_le (Nat.le_of_eq (Enc.len _ _))) LN (by decide)) ?_
     refine At.s (S_alloc (some 9) 9 (zs := [iV 0, iV 0, u8V (0#8)]) rfl ze47 rfl (fun b9 => ?_))
     refine At.s (S_storeA none (k := 9) (vs := [iV ((L0.getD i default).w), iV ((L0.getD i default).i), u8V ((L0.getD i default).p)]) rfl rfl rfl (by rw [sz47]; exact congrArg some LN) rfl (one_cons rfl (one_cons rfl (one_cons rfl one_nil))) NG rfl LN ?_)
     refine At.nil ?_
     refine At.next ?_
     refine At.seq ?_
     have hil : i < L0.length := by omega
     refine At.region ?_
     refine At.q (some 43) (Q_loadA (k := 5) rfl rfl Try.underlying40 rfl sz40 LN rfl) ?_
     refine At.s (S_callV (some 44) [(501, _)] [44] (vs := [_]) rfl en25 rfl (VN (by simp) rfl View.all V0) (by simp) (c_from (key := key) (next := (N : Int)) (L := L) (A := Ax) (n := L.length) (c := cx) (b := bx) (q := 0) LN LN (fun h => hAx (by omega)) OG OG) (by rintro _ _ ⟨A44, b44, c44, g44a, g44b, rfl, rfl⟩; rfl) ?_)
     rintro _ _ ⟨A44, b44, c44, g44a, g44b, rfl, rfl⟩
     refine At.s (S_alloc (some 10) 10 (zs := [(List.replicate 32 0#8).map u8V, [iV 0, .slice none 0 0]].flatten) rfl ze44 rfl (fun b10 => ?_))
     refine At.s (S_storeA none (k := 10) (vs := [(key).map u8V, [iV (N : Int), .slice A44 L.length c44]].flatten) rfl rfl rfl (by rw [sz44]; exact congrArg some LN) rfl (one_flatc (one_map (fun _ => rfl)) (one_flatc (one_cons rfl (one_cons rfl one_nil)) one_flat0)) NG rfl LN ?_)
     refine At.nil ?_
     refine At.next ?_
     refine At.seq ?_
     refine At.region ?_
     refine At.p (some 45) (P_fieldAddr0 (off := 0) rfl Try.underlying47 rfl sz3 rfl rfl) ?_
     refine At.q (some 46) (Q_loadO (k := 9) rfl rfl Try.underlying3 rfl rfl rfl) ?_
     refine At.p (some 47) (P_conv_iw UK.u64 rfl Try.underlying3 Try.underlying49 rfl) ?_
     refine At.p (some 48) (P_rem_w UK.u64 (b := 7#64) rfl rfl rfl (by decide)) ?_
     obtain ⟨k49, hk49, hek49, hdk49⟩ := umod_c ((BitVec.ofInt 64 ((L0.getD i default).w))) 7#64 (by decide) (by decide)
     have hk49 : k49 < 7 := hk49
     refine At.p (some 49) (P_conv_WiE hek49 rfl Try.underlying49 Try.underlying3 rfl) ?_
     refine At.p (some 11) (P_assign rfl rfl) ?_
     refine At.nil ?_
     refine At.next ?_
     refine At.seqJ (fun fr H => ∃ (N2 : Nat) (L2 WL2 : List Ent) (o2 : Nat) (U2 : List Int) (Ax2 : Option Addr) (bx2 cx2 : Nat) (Aw2 : Option Addr) (bw2 cw2 rw2 : Nat), fr = frOf [(1, .slice Ar nr c), (2, ptr b2 0), (5, ptr b5 0), (6, ptr b6 0), (7, .map (some b7)), (8, iV (i : Int))] ∧ H = hOf [(0, ⟨false, b, q, 0, encs ActTN L0, 0⟩), (2, ⟨true, b2, 0, 23, (key).map u8V, 0⟩), (5, ⟨true, b5, 0, 40, [(key).map u8V, [iV (N2 : Int), .slice Ax2 L2.length cx2]].flatten, 0⟩), (6, ⟨true, b6, 0, 44, [(key).map u8V, [iV (N2 : Int), .slice Aw2 L2.length cw2]].flatten, 0⟩), (7, (mRow b7 U2)), (501, ⟨true, bx2, 0, 96, encs EntE L2, (cx2 - (L2).length) * 33⟩), (601, ⟨true, bw2, 0, 55, encs EntE WL2, rw2⟩)] ∧ (N2 ≤ i + 1) ∧ (rightT (N2 : Int) L2 = true) ∧ (UsedOk U2 N2 L2) ∧ (0 < cx2 → Ax2 = some ⟨bx2, 0, none⟩) ∧ (L2.length ≤ cx2) ∧ (0 < L2.length → Aw2 = some ⟨bw2, o2 * 33, none⟩) ∧ (WL2.drop o2 = L2) ∧ (o2 + L2.length = WL2.length) ∧ (L2.length ≤ cw2)) ?_ ?_
     ·
      intro Kj1 hKj1
      refine At.seq ?_
      refine At.region ?_
      refine At.p (some 50) (P_move rfl rfl) ?_
      refine At.p (some 51) (P_cmp rfl rfl rfl rfl rfl rfl) ?_
      refine At.nil ?_
      refine At.next ?_
      refine At.cond rfl (fun h51 => ?_) (fun h51 => ?_)
      · -- cond 51 t
       have e51 : (k49 : Int) < 3 := of_decide_eq_true h51
       refine At.seq ?_
       refine At.region ?_
       refine At.q (some 53) (Q_loadA (k := 5) rfl rfl Try.underlying40 rfl sz40 LN rfl) ?_
       refine At.p (some 54) (P_fieldAddr0 (off := 2) rfl Try.underlying47 rfl sz5 rfl rfl) ?_
       refine At.q (some 55) (Q_loadO (k := 9) rfl rfl Try.underlying5 rfl rfl rfl) ?_
       refine At.p (some 56) (P_build_arr (cs := (([(L0.getD i default).p, 0#8, 0#8, 0#8, 0#8, 0#8, 0#8, 0#8, 0#8, 0#8, 0#8, 0#8, 0#8, 0#8, 0#8, 0#8, 0#8, 0#8, 0#8, 0#8, 0#8, 0#8, 0#8, 0#8, 0#8, 0#8, 0#8, 0#8, 0#8, 0#8, 0#8, 0#8]).map u8V).toArray) (parts := _) (vs := [(0, _)]) rfl Try.underlying23 sz5 ze23 rfl rfl) ?_
       refine At.s (S_callV (some 57) [(501, _)] [57] (vs := [_, _]) rfl en26 rfl (VN (by simp) rfl View.all V0) (by simp) (c_Mint (key := key) (next := (N : Int)) (L := L) (A := Ax) (n := L.length) (c := cx) (b := bx) (q := 0) (psk := [(L0.getD i default).p, 0#8, 0#8, 0#8, 0#8, 0#8, 0#8, 0#8, 0#8, 0#8, 0#8, 0#8, 0#8, 0#8, 0#8, 0#8, 0#8, 0#8, 0#8, 0#8, 0#8, 0#8, 0#8, 0#8, 0#8, 0#8, 0#8, 0#8, 0#8, 0#8, 0#8, 0#8]) LN LN (fun h => hAx (by omega)) OG LN) (by rintro _ _ ⟨A57, b57, c57, g57a, g57b, rfl, rfl⟩; rfl) ?_)
       rintro _ _ ⟨A57, b57, c57, g57a, g57b, rfl, rfl⟩
       have := miK_len (N : Int) L (key := key) LN
       refine At.p (some 52) (P_move rfl rfl) ?_
       refine At.p (some 58) (P_extract rfl rfl rfl) ?_
       refine At.p (some 59) (P_extract rfl rfl rfl) ?_
       refine At.p (some 60) (P_extract rfl rfl rfl) ?_
       refine At.s (S_alloc (some 12) 12 (zs := [(List.replicate 32 0#8).map u8V, [iV 0, .slice none 0 0]].flatten) rfl ze40 rfl (fun b12 => ?_))
       refine At.s (S_storeA none (k := 12) (vs := [(miK key (N : Int) L).map u8V, [iV (miN (N : Int) L), .slice A57 ((miL (N : Int) L [(L0.getD i default).p, 0#8, 0#8, 0#8, 0#8, 0#8, 0#8, 0#8, 0#8, 0#8, 0#8, 0#8, 0#8, 0#8, 0#8, 0#8, 0#8, 0#8, 0#8, 0#8, 0#8, 0#8, 0#8, 0#8, 0#8, 0#8, 0#8, 0#8, 0#8, 0#8, 0#8, 0#8]).length) c57]].flatten) rfl rfl rfl (by rw [sz40]; exact congrArg some LN) rfl (one_flatc (one_map (fun _ => rfl)) (one_flatc (one_cons rfl (one_cons rfl one_nil)) one_flat0)) NG rfl LN ?_)
       refine At.p (some 13) (P_assign rfl rfl) ?_
       refine At.p (some 14) (P_assign rfl rfl) ?_
       refine At.nil ?_
       refine At.next ?_
       refine At.seq ?_
       refine At.seq ?_
       obtain ⟨z5, z1, z2, z3, z4⟩ := mi_t key [(L0.getD i default).p, 0#8, 0#8, 0#8, 0#8, 0#8, 0#8, 0#8, 0#8, 0#8, 0#8, 0#8, 0#8, 0#8, 0#8, 0#8, 0#8, 0#8, 0#8, 0#8, 0#8, 0#8, 0#8, 0#8, 0#8, 0#8, 0#8, 0#8, 0#8, 0#8, 0#8, 0#8] hr (by omega)
       refine At.draws 12 [] [.q false [0, 1, 2, 3, 4, 5, 6, 7, 8, 9, 11], .e false 10] (by kernel_rfl) (by kernel_rfl) ?_
       refine At.wp (some 61) (P_move rfl rfl) ?_
       refine At.wp (some 62) (P_cmp rfl rfl rfl rfl rfl rfl) ?_
       refine At.wp (some 63) (P_move rfl rfl) ?_
       refine At.wgy (some 64) (t := 63) rfl (bne_eq_false_iff_eq.2 z5) rfl rfl (P_move rfl rfl) ?_
       refine At.wgy (some 65) (t := 63) rfl (bne_eq_false_iff_eq.2 z5) rfl rfl (P_fieldAddr0 (off := 32) rfl Try.underlying44 rfl sz3 rfl rfl) ?_
       refine At.wgyq (some 66) (t := 63) rfl (bne_eq_false_iff_eq.2 z5) rfl rfl (Q_loadO (k := 6) rfl rfl Try.underlying3 rfl rfl (seg_get (i := 1) (p := 0) rfl LN rfl)) ?_
       refine At.wgy (some 67) (t := 63) rfl (bne_eq_false_iff_eq.2 z5) rfl rfl (P_cmp rfl rfl rfl rfl rfl rfl) ?_
       refine At.wp (some 68) (P_pick_f rfl rfl (bne_eq_false_iff_eq.2 z5) rfl) ?_
       refine At.wp (some 69) (P_move rfl rfl) ?_
       refine At.wgyq (some 70) (t := 69) rfl (bne_eq_false_iff_eq.2 z4) rfl rfl (Q_loadA (k := 5) rfl rfl Try.underlying40 rfl sz40 LN rfl) ?_
       refine At.wgyq (some 72) (t := 69) rfl (bne_eq_false_iff_eq.2 z4) rfl rfl (Q_loadA (k := 10) rfl rfl Try.underlying44 rfl sz44 LN rfl) ?_
       refine At.wqn ?_
       refine At.wey (t := 69) rfl (bne_eq_false_iff_eq.2 z4) rfl rfl ?_
       refine SStep.up (S_callV (some 71) [(501, _)] [71] (vs := [_]) rfl en25 rfl (VN (by simp) rfl View.all V0) (by simp) (c_from (key := key) (next := (N : Int)) (L := L) (A := Ax) (n := L.length) (c := cx) (b := bx) (q := 0) LN LN (fun h => hAx (by omega)) OG OG) (by rintro _ _ ⟨A71, b71, c71, g71a, g71b, rfl, rfl⟩; rfl) ?_)
       rintro _ _ ⟨A71, b71, c71, g71a, g71b, rfl, rfl⟩
       refine At.wt rfl ?_
       refine At.gy (t := 69) rfl (bne_eq_false_iff_eq.2 z4) rfl rfl ?_
       refine At.s (S_callV (some 73) [(71, _), (44, _)] [] (vs := [_, _]) rfl en27 rfl (VN (by simp) rfl View.all (VN (by simp) rfl View.all V0)) (by simp) (r_Same (keya := key) (nexta := (N : Int)) (La := L) (Aa := A71) (na := L.length) (ca := c71) (ba := b71) (qa := 0) (keyb := key) (nextb := (N : Int)) (Lb := L) (Ab := A44) (nb := L.length) (cb := c44) (bb := b44) (qb := 0) LN LN (fun h => g71a (by omega)) OG LN LN (fun h => g44a (by omega)) OG OG (by assumption) (by assumption)) (by rintro _ _ ⟨rfl, rfl⟩; rfl) ?_)
       rintro _ _ ⟨rfl, rfl⟩
       refine At.gy (t := 69) rfl (bne_eq_false_iff_eq.2 z4) rfl rfl ?_
       refine At.p (some 74) (P_not rfl rfl) ?_
       refine At.p (some 75) (P_pick_f rfl rfl (bne_eq_false_iff_eq.2 z4) rfl) ?_
       refine At.nil ?_
       refine At.next ?_
       refine At.cond rfl (fun h75 => by rw [sa_self] at h75; simp at h75) (fun h75 => ?_)
       refine At.skip ?_
       refine At.next ?_
       refine At.seq ?_
       refine At.bBruteG [3, 11, 13] (fun fr H => ∃ (b76 : Nat) (A79 : Option Addr) (b79 c79 : Nat) (b86 : Nat) (A87 : Option Addr) (b87 c87 : Nat), fr = frOf [(1, .slice Ar nr c), (2, ptr b2 0), (5, ptr b5 0), (6, ptr b6 0), (7, .map (some b7)), (8, iV (i : Int)), (12, ptr b12 0), (34, iV (i : Int)), (35, .bool (decide ((i : Int) < 60))), (64, iV (miI (N : Int) L)), (65, ptr b6 32), (66, iV (N : Int)), (67, .bool ((miI (N : Int) L) != (N : Int))), (70, .agg ([(key).map u8V, [iV (N : Int), .slice Ax L.length cx]].flatten).toArray), (71, .agg ([(key).map u8V, [iV (N : Int), .slice A71 L.length c71]].flatten).toArray), (72, .agg ([(key).map u8V, [iV (N : Int), .slice A44 L.length c44]].flatten).toArray), (73, .bool (saB key (N : Int) L key (N : Int) L)), (74, .bool (!(saB key (N : Int) L key (N : Int) L)))] ∧ H = hOf [(0, ⟨false, b, q, 0, encs ActTN L0, 0⟩), (2, ⟨true, b2, 0, 23, (key).map u8V, 0⟩), (5, ⟨true, b5, 0, 40, [(key).map u8V, [iV (N : Int), .slice Ax L.length cx]].flatten, 0⟩), (6, ⟨true, b6, 0, 44, [(key).map u8V, [iV (N : Int), .slice A87 ((L ++ [mkEnt (N : Int) [(L0.getD i default).p, 0#8, 0#8, 0#8, 0#8, 0#8, 0#8, 0#8, 0#8, 0#8, 0#8, 0#8, 0#8, 0#8, 0#8, 0#8, 0#8, 0#8, 0#8, 0#8, 0#8, 0#8, 0#8, 0#8, 0#8, 0#8, 0#8, 0#8, 0#8, 0#8, 0#8, 0#8]]).length) c87]].flatten, 0⟩), (7, (mRow b7 U)), (12, ⟨true, b12, 0, 40, [(miK key (N : Int) L).map u8V, [iV (miN (N : Int) L), .slice A57 ((miL (N : Int) L [(L0.getD i default).p, 0#8, 0#8, 0#8, 0#8, 0#8, 0#8, 0#8, 0#8, 0#8, 0#8, 0#8, 0#8, 0#8, 0#8, 0#8, 0#8, 0#8, 0#8, 0#8, 0#8, 0#8, 0#8, 0#8, 0#8, 0#8, 0#8, 0#8, 0#8, 0#8, 0#8, 0#8]).length) c57]].flatten, 0⟩), (44, ⟨true, b44, 0, 55, encs EntE L, (c44 - (L).length) * 33⟩), (57, ⟨true, b57, 0, 96, encs EntE (miL (N : Int) L [(L0.getD i default).p, 0#8, 0#8, 0#8, 0#8, 0#8, 0#8, 0#8, 0#8, 0#8, 0#8, 0#8, 0#8, 0#8, 0#8, 0#8, 0#8, 0#8, 0#8, 0#8, 0#8, 0#8, 0#8, 0#8, 0#8, 0#8, 0#8, 0#8, 0#8, 0#8, 0#8, 0#8]), (c57 - (miL (N : Int) L [(L0.getD i default).p, 0#8, 0#8, 0#8, 0#8, 0#8, 0#8, 0#8, 0#8, 0#8, 0#8, 0#8, 0#8, 0#8, 0#8, 0#8, 0#8, 0#8, 0#8, 0#8, 0#8, 0#8, 0#8, 0#8, 0#8, 0#8, 0#8, 0#8, 0#8, 0#8, 0#8, 0#8]).length) * 33⟩), (71, ⟨true, b71, 0, 55, encs EntE L, (c71 - (L).length) * 33⟩), (76, ⟨true, b87, 0, 55, encs EntE (L ++ [mkEnt (N : Int) [(L0.getD i default).p, 0#8, 0#8, 0#8, 0#8, 0#8, 0#8, 0#8, 0#8, 0#8, 0#8, 0#8, 0#8, 0#8, 0#8, 0#8, 0#8, 0#8, 0#8, 0#8, 0#8, 0#8, 0#8, 0#8, 0#8, 0#8, 0#8, 0#8, 0#8, 0#8, 0#8, 0#8]]), (c87 - ((L ++ [mkEnt (N : Int) [(L0.getD i default).p, 0#8, 0#8, 0#8, 0#8, 0#8, 0#8, 0#8, 0#8, 0#8, 0#8, 0#8, 0#8, 0#8, 0#8, 0#8, 0#8, 0#8, 0#8, 0#8, 0#8, 0#8, 0#8, 0#8, 0#8, 0#8, 0#8, 0#8, 0#8, 0#8, 0#8, 0#8]])).length) * 33⟩), (501, ⟨true, bx, 0, 96, encs EntE L, (cx - (L).length) * 33⟩), (601, ⟨true, bw, 0, 55, encs EntE WL, rw⟩)] ∧ (0 < c79 → A79 = some ⟨b79, 0, none⟩) ∧ (L.length ≤ c79) ∧ (0 < c87 → A87 = some ⟨b87, 0, none⟩) ∧ ((L ++ [mkEnt (N : Int) [(L0.getD i default).p, 0#8, 0#8, 0#8, 0#8, 0#8, 0#8, 0#8, 0#8, 0#8, 0#8, 0#8, 0#8, 0#8, 0#8, 0#8, 0#8, 0#8, 0#8, 0#8, 0#8, 0#8, 0#8, 0#8, 0#8, 0#8, 0#8, 0#8, 0#8, 0#8, 0#8, 0#8]]).length ≤ c87) ∧ True) (by kernel_rfl) ?_ ?_
       ·
        intro Kb hKb G hGi hGo
        have hG13_0 (b76 : Nat) (A79 : Option Addr) (b79 c79 : Nat) (b86 : Nat) (A87 : Option Addr) (b87 c87 : Nat) (g79a : 0 < c79 → A79 = some ⟨b79, 0, none⟩) (g79b : L.length ≤ c79) (g87a : 0 < c87 → A87 = some ⟨b87, 0, none⟩) (g87b : (L ++ [mkEnt (N : Int) [(L0.getD i default).p, 0#8, 0#8, 0#8, 0#8, 0#8, 0#8, 0#8, 0#8, 0#8, 0#8, 0#8, 0#8, 0#8, 0#8, 0#8, 0#8, 0#8, 0#8, 0#8, 0#8, 0#8, 0#8, 0#8, 0#8, 0#8, 0#8, 0#8, 0#8, 0#8, 0#8, 0#8]]).length ≤ c87) : G 0 #[true, true, true, true, true, true, true, true, true, true, true, true, true, true] (frOf [(1, .slice Ar nr c), (2, ptr b2 0), (5, ptr b5 0), (6, ptr b6 0), (7, .map (some b7)), (8, iV (i : Int)), (12, ptr b12 0), (34, iV (i : Int)), (35, .bool (decide ((i : Int) < 60))), (64, iV (miI (N : Int) L)), (65, ptr b6 32), (66, iV (N : Int)), (67, .bool ((miI (N : Int) L) != (N : Int))), (70, .agg ([(key).map u8V, [iV (N : Int), .slice Ax L.length cx]].flatten).toArray), (71, .agg ([(key).map u8V, [iV (N : Int), .slice A71 L.length c71]].flatten).toArray), (72, .agg ([(key).map u8V, [iV (N : Int), .slice A44 L.length c44]].flatten).toArray), (73, .bool (saB key (N : Int) L key (N : Int) L)), (74, .bool (!(saB key (N : Int) L key (N : Int) L)))]) (hOf [(0, ⟨false, b, q, 0, encs ActTN L0, 0⟩), (2, ⟨true, b2, 0, 23, (key).map u8V, 0⟩), (5, ⟨true, b5, 0, 40, [(key).map u8V, [iV (N : Int), .slice Ax L.length cx]].flatten, 0⟩), (6, ⟨true, b6, 0, 44, [(key).map u8V, [iV (N : Int), .slice A87 ((L ++ [mkEnt (N : Int) [(L0.getD i default).p, 0#8, 0#8, 0#8, 0#8, 0#8, 0#8, 0#8, 0#8, 0#8, 0#8, 0#8, 0#8, 0#8, 0#8, 0#8, 0#8, 0#8, 0#8, 0#8, 0#8, 0#8, 0#8, 0#8, 0#8, 0#8, 0#8, 0#8, 0#8, 0#8, 0#8, 0#8]]).length) c87]].flatten, 0⟩), (7, (mRow b7 U)), (12, ⟨true, b12, 0, 40, [(miK key (N : Int) L).map u8V, [iV (miN (N : Int) L), .slice A57 ((miL (N : Int) L [(L0.getD i default).p, 0#8, 0#8, 0#8, 0#8, 0#8, 0#8, 0#8, 0#8, 0#8, 0#8, 0#8, 0#8, 0#8, 0#8, 0#8, 0#8, 0#8, 0#8, 0#8, 0#8, 0#8, 0#8, 0#8, 0#8, 0#8, 0#8, 0#8, 0#8, 0#8, 0#8, 0#8]).length) c57]].flatten, 0⟩), (44, ⟨true, b44, 0, 55, encs EntE L, (c44 - (L).length) * 33⟩), (57, ⟨true, b57, 0, 96, encs EntE (miL (N : Int) L [(L0.getD i default).p, 0#8, 0#8, 0#8, 0#8, 0#8, 0#8, 0#8, 0#8, 0#8, 0#8, 0#8, 0#8, 0#8, 0#8, 0#8, 0#8, 0#8, 0#8, 0#8, 0#8, 0#8, 0#8, 0#8, 0#8, 0#8, 0#8, 0#8, 0#8, 0#8, 0#8, 0#8]), (c57 - (miL (N : Int) L [(L0.getD i default).p, 0#8, 0#8, 0#8, 0#8, 0#8, 0#8, 0#8, 0#8, 0#8, 0#8, 0#8, 0#8, 0#8, 0#8, 0#8, 0#8, 0#8, 0#8, 0#8, 0#8, 0#8, 0#8, 0#8, 0#8, 0#8, 0#8, 0#8, 0#8, 0#8, 0#8, 0#8]).length) * 33⟩), (71, ⟨true, b71, 0, 55, encs EntE L, (c71 - (L).length) * 33⟩), (76, ⟨true, b87, 0, 55, encs EntE (L ++ [mkEnt (N : Int) [(L0.getD i default).p, 0#8, 0#8, 0#8, 0#8, 0#8, 0#8, 0#8, 0#8, 0#8, 0#8, 0#8, 0#8, 0#8, 0#8, 0#8, 0#8, 0#8, 0#8, 0#8, 0#8, 0#8, 0#8, 0#8, 0#8, 0#8, 0#8, 0#8, 0#8, 0#8, 0#8, 0#8]]), (c87 - ((L ++ [mkEnt (N : Int) [(L0.getD i default).p, 0#8, 0#8, 0#8, 0#8, 0#8, 0#8, 0#8, 0#8, 0#8, 0#8, 0#8, 0#8, 0#8, 0#8, 0#8, 0#8, 0#8, 0#8, 0#8, 0#8, 0#8, 0#8, 0#8, 0#8, 0#8, 0#8, 0#8, 0#8, 0#8, 0#8, 0#8]])).length) * 33⟩), (501, ⟨true, bx, 0, 96, encs EntE L, (cx - (L).length) * 33⟩), (601, ⟨true, bw, 0, 55, encs EntE WL, rw⟩)]) := by
         refine hGo ?_
         refine At.bEnd (by kernel_rfl) ?_
         refine At.next ?_
         exact hKb _ _ ⟨b76, A79, b79, c79, b86, A87, b87, c87, rfl, rfl, g79a, g79b, g87a, g87b, trivial⟩
        have hG13_1 (b76 : Nat) (A79 : Option Addr) (b79 c79 : Nat) (b86 : Nat) (A87 : Option Addr) (b87 c87 : Nat) (g79a : 0 < c79 → A79 = some ⟨b79, 0, none⟩) (g79b : L.length ≤ c79) (g87a : 0 < c87 → A87 = some ⟨b87, 0, none⟩) (g87b : (L ++ [mkEnt (N : Int) [(L0.getD i default).p, 0#8, 0#8, 0#8, 0#8, 0#8, 0#8, 0#8, 0#8, 0#8, 0#8, 0#8, 0#8, 0#8, 0#8, 0#8, 0#8, 0#8, 0#8, 0#8, 0#8, 0#8, 0#8, 0#8, 0#8, 0#8, 0#8, 0#8, 0#8, 0#8, 0#8, 0#8]]).length ≤ c87) : G 1 #[true, true, true, true, true, true, true, true, true, true, true, true, true, false] (frOf [(1, .slice Ar nr c), (2, ptr b2 0), (5, ptr b5 0), (6, ptr b6 0), (7, .map (some b7)), (8, iV (i : Int)), (12, ptr b12 0), (34, iV (i : Int)), (35, .bool (decide ((i : Int) < 60))), (64, iV (miI (N : Int) L)), (65, ptr b6 32), (66, iV (N : Int)), (67, .bool ((miI (N : Int) L) != (N : Int))), (70, .agg ([(key).map u8V, [iV (N : Int), .slice Ax L.length cx]].flatten).toArray), (71, .agg ([(key).map u8V, [iV (N : Int), .slice A71 L.length c71]].flatten).toArray), (72, .agg ([(key).map u8V, [iV (N : Int), .slice A44 L.length c44]].flatten).toArray), (73, .bool (saB key (N : Int) L key (N : Int) L)), (74, .bool (!(saB key (N : Int) L key (N : Int) L))), (87, .slice A87 ((L ++ [mkEnt (N : Int) [(L0.getD i default).p, 0#8, 0#8, 0#8, 0#8, 0#8, 0#8, 0#8, 0#8, 0#8, 0#8, 0#8, 0#8, 0#8, 0#8, 0#8, 0#8, 0#8, 0#8, 0#8, 0#8, 0#8, 0#8, 0#8, 0#8, 0#8, 0#8, 0#8, 0#8, 0#8, 0#8, 0#8]]).length) c87), (88, ptr b6 33)]) (hOf [(0, ⟨false, b, q, 0, encs ActTN L0, 0⟩), (2, ⟨true, b2, 0, 23, (key).map u8V, 0⟩), (5, ⟨true, b5, 0, 40, [(key).map u8V, [iV (N : Int), .slice Ax L.length cx]].flatten, 0⟩), (6, ⟨true, b6, 0, 44, [(key).map u8V, [iV (N : Int), .slice Aw L.length cw]].flatten, 0⟩), (7, (mRow b7 U)), (12, ⟨true, b12, 0, 40, [(miK key (N : Int) L).map u8V, [iV (miN (N : Int) L), .slice A57 ((miL (N : Int) L [(L0.getD i default).p, 0#8, 0#8, 0#8, 0#8, 0#8, 0#8, 0#8, 0#8, 0#8, 0#8, 0#8, 0#8, 0#8, 0#8, 0#8, 0#8, 0#8, 0#8, 0#8, 0#8, 0#8, 0#8, 0#8, 0#8, 0#8, 0#8, 0#8, 0#8, 0#8, 0#8, 0#8]).length) c57]].flatten, 0⟩), (44, ⟨true, b44, 0, 55, encs EntE L, (c44 - (L).length) * 33⟩), (57, ⟨true, b57, 0, 96, encs EntE (miL (N : Int) L [(L0.getD i default).p, 0#8, 0#8, 0#8, 0#8, 0#8, 0#8, 0#8, 0#8, 0#8, 0#8, 0#8, 0#8, 0#8, 0#8, 0#8, 0#8, 0#8, 0#8, 0#8, 0#8, 0#8, 0#8, 0#8, 0#8, 0#8, 0#8, 0#8, 0#8, 0#8, 0#8, 0#8]), (c57 - (miL (N : Int) L [(L0.getD i default).p, 0#8, 0#8, 0#8, 0#8, 0#8, 0#8, 0#8, 0#8, 0#8, 0#8, 0#8, 0#8, 0#8, 0#8, 0#8, 0#8, 0#8, 0#8, 0#8, 0#8, 0#8, 0#8, 0#8, 0#8, 0#8, 0#8, 0#8, 0#8, 0#8, 0#8, 0#8]).length) * 33⟩), (71, ⟨true, b71, 0, 55, encs EntE L, (c71 - (L).length) * 33⟩), (76, ⟨true, b87, 0, 55, encs EntE (L ++ [mkEnt (N : Int) [(L0.getD i default).p, 0#8, 0#8, 0#8, 0#8, 0#8, 0#8, 0#8, 0#8, 0#8, 0#8, 0#8, 0#8, 0#8, 0#8, 0#8, 0#8, 0#8, 0#8, 0#8, 0#8, 0#8, 0#8, 0#8, 0#8, 0#8, 0#8, 0#8, 0#8, 0#8, 0#8, 0#8]]), (c87 - ((L ++ [mkEnt (N : Int) [(L0.getD i default).p, 0#8, 0#8, 0#8, 0#8, 0#8, 0#8, 0#8, 0#8, 0#8, 0#8, 0#8, 0#8, 0#8, 0#8, 0#8, 0#8, 0#8, 0#8, 0#8, 0#8, 0#8, 0#8, 0#8, 0#8, 0#8, 0#8, 0#8, 0#8, 0#8, 0#8, 0#8]])).length) * 33⟩), (501, ⟨true, bx, 0, 96, encs EntE L, (cx - (L).length) * 33⟩), (601, ⟨true, bw, 0, 55, encs EntE WL, rw⟩)]) := by
         refine hGo ?_
         refine At.bStep [13] (by kernel_rfl) (by simp) ?_
         refine At.bS true (by kernel_rfl) (S_store none (k := 6) rfl rfl rfl sz42 rfl rfl rfl LN ?_)
         refine At.row 6 (⟨true, b6, 0, 44, [(key).map u8V, [iV (N : Int), .slice A87 ((L ++ [mkEnt (N : Int) [(L0.getD i default).p, 0#8, 0#8, 0#8, 0#8, 0#8, 0#8, 0#8, 0#8, 0#8, 0#8, 0#8, 0#8, 0#8, 0#8, 0#8, 0#8, 0#8, 0#8, 0#8, 0#8, 0#8, 0#8, 0#8, 0#8, 0#8, 0#8, 0#8, 0#8, 0#8, 0#8, 0#8]]).length) c87]].flatten, 0⟩) rfl (seg_set1 (x := [iV (N : Int), .slice Aw L.length cw]) (i := 1) (p := 1) rfl LN OG) ?_
         exact At.into (hGi (hG13_0 b76 A79 b79 c79 b86 A87 b87 c87 g79a g79b g87a g87b)) rfl rfl
        have hG13_2 (b76 : Nat) (A79 : Option Addr) (b79 c79 : Nat) (b86 : Nat) (g79a : 0 < c79 → A79 = some ⟨b79, 0, none⟩) (g79b : L.length ≤ c79) : G 3 #[true, true, true, true, true, true, true, true, true, true, true, false, false, false] (frOf [(1, .slice Ar nr c), (2, ptr b2 0), (5, ptr b5 0), (6, ptr b6 0), (7, .map (some b7)), (8, iV (i : Int)), (12, ptr b12 0), (34, iV (i : Int)), (35, .bool (decide ((i : Int) < 60))), (64, iV (miI (N : Int) L)), (65, ptr b6 32), (66, iV (N : Int)), (67, .bool ((miI (N : Int) L) != (N : Int))), (70, .agg ([(key).map u8V, [iV (N : Int), .slice Ax L.length cx]].flatten).toArray), (71, .agg ([(key).map u8V, [iV (N : Int), .slice A71 L.length c71]].flatten).toArray), (72, .agg ([(key).map u8V, [iV (N : Int), .slice A44 L.length c44]].flatten).toArray), (73, .bool (saB key (N : Int) L key (N : Int) L)), (74, .bool (!(saB key (N : Int) L key (N : Int) L))), (79, .slice A79 L.length c79), (86, .slice (some ⟨b86, 0, none⟩) 1 1)]) (hOf [(0, ⟨false, b, q, 0, encs ActTN L0, 0⟩), (2, ⟨true, b2, 0, 23, (key).map u8V, 0⟩), (5, ⟨true, b5, 0, 40, [(key).map u8V, [iV (N : Int), .slice Ax L.length cx]].flatten, 0⟩), (6, ⟨true, b6, 0, 44, [(key).map u8V, [iV (N : Int), .slice Aw L.length cw]].flatten, 0⟩), (7, (mRow b7 U)), (12, ⟨true, b12, 0, 40, [(miK key (N : Int) L).map u8V, [iV (miN (N : Int) L), .slice A57 ((miL (N : Int) L [(L0.getD i default).p, 0#8, 0#8, 0#8, 0#8, 0#8, 0#8, 0#8, 0#8, 0#8, 0#8, 0#8, 0#8, 0#8, 0#8, 0#8, 0#8, 0#8, 0#8, 0#8, 0#8, 0#8, 0#8, 0#8, 0#8, 0#8, 0#8, 0#8, 0#8, 0#8, 0#8, 0#8]).length) c57]].flatten, 0⟩), (44, ⟨true, b44, 0, 55, encs EntE L, (c44 - (L).length) * 33⟩), (57, ⟨true, b57, 0, 96, encs EntE (miL (N : Int) L [(L0.getD i default).p, 0#8, 0#8, 0#8, 0#8, 0#8, 0#8, 0#8, 0#8, 0#8, 0#8, 0#8, 0#8, 0#8, 0#8, 0#8, 0#8, 0#8, 0#8, 0#8, 0#8, 0#8, 0#8, 0#8, 0#8, 0#8, 0#8, 0#8, 0#8, 0#8, 0#8, 0#8]), (c57 - (miL (N : Int) L [(L0.getD i default).p, 0#8, 0#8, 0#8, 0#8, 0#8, 0#8, 0#8, 0#8, 0#8, 0#8, 0#8, 0#8, 0#8, 0#8, 0#8, 0#8, 0#8, 0#8, 0#8, 0#8, 0#8, 0#8, 0#8, 0#8, 0#8, 0#8, 0#8, 0#8, 0#8, 0#8, 0#8]).length) * 33⟩), (71, ⟨true, b71, 0, 55, encs EntE L, (c71 - (L).length) * 33⟩), (76, ⟨true, b79, 0, 55, encs EntE L, (c79 - (L).length) * 33⟩), (86, ⟨true, b86, 0, 55, encs EntE [mkEnt (N : Int) [(L0.getD i default).p, 0#8, 0#8, 0#8, 0#8, 0#8, 0#8, 0#8, 0#8, 0#8, 0#8, 0#8, 0#8, 0#8, 0#8, 0#8, 0#8, 0#8, 0#8, 0#8, 0#8, 0#8, 0#8, 0#8, 0#8, 0#8, 0#8, 0#8, 0#8, 0#8, 0#8, 0#8]], 0⟩), (501, ⟨true, bx, 0, 96, encs EntE L, (cx - (L).length) * 33⟩), (601, ⟨true, bw, 0, 55, encs EntE WL, rw⟩)]) := by
         clear hG13_0
         refine hGo ?_
         refine At.bStep [11] (by kernel_rfl) (by simp) ?_
         refine At.bS true (by kernel_rfl) (S_appendE (en := EntE) (some 87) 76 ((L ++ [mkEnt (N : Int) [(L0.getD i default).p, 0#8, 0#8, 0#8, 0#8, 0#8, 0#8, 0#8, 0#8, 0#8, 0#8, 0#8, 0#8, 0#8, 0#8, 0#8, 0#8, 0#8, 0#8, 0#8, 0#8, 0#8, 0#8, 0#8, 0#8, 0#8, 0#8, 0#8, 0#8, 0#8, 0#8, 0#8]])) (l := L) (L := [mkEnt (N : Int) [(L0.getD i default).p, 0#8, 0#8, 0#8, 0#8, 0#8, 0#8, 0#8, 0#8, 0#8, 0#8, 0#8, 0#8, 0#8, 0#8, 0#8, 0#8, 0#8, 0#8, 0#8, 0#8, 0#8, 0#8, 0#8, 0#8, 0#8, 0#8, 0#8, 0#8, 0#8, 0#8, 0#8]]) (m := 1) (sz := 33) rfl rfl Try.underlying42 Try.underlying42 (.inr ⟨_, rfl⟩) sz55 by55 ze55 rfl rfl (fun h => ⟨g79a h, rfl⟩) LN OG OG (SrcE.all (en := EntE) (k := 86) (L := [mkEnt (N : Int) [(L0.getD i default).p, 0#8, 0#8, 0#8, 0#8, 0#8, 0#8, 0#8, 0#8, 0#8, 0#8, 0#8, 0#8, 0#8, 0#8, 0#8, 0#8, 0#8, 0#8, 0#8, 0#8, 0#8, 0#8, 0#8, 0#8, 0#8, 0#8, 0#8, 0#8, 0#8, 0#8, 0#8]]) rfl rfl (fun _ => rfl) (fun _ => ⟨rfl, rfl, rfl⟩) LN) OG OG rfl LN ?_)
         intro A87 b87 c87 g87a g87b
         refine At.bP  12 (some 88) (P_fieldAddr0 (off := 33) rfl Try.underlying44 rfl sz42 rfl rfl) (by kernel_rfl) (by kernel_rfl) ?_
         exact At.into (hGi (hG13_1 b76 A79 b79 c79 b86 A87 b87 c87 g79a g79b g87a g87b)) rfl rfl
        have hG13_3 (b76 : Nat) (A79 : Option Addr) (b79 c79 : Nat) (g79a : 0 < c79 → A79 = some ⟨b79, 0, none⟩) (g79b : L.length ≤ c79) : G 4 #[true, true, true, true, true, true, true, true, true, true, false, false, false, false] (frOf [(1, .slice Ar nr c), (2, ptr b2 0), (5, ptr b5 0), (6, ptr b6 0), (7, .map (some b7)), (8, iV (i : Int)), (12, ptr b12 0), (34, iV (i : Int)), (35, .bool (decide ((i : Int) < 60))), (64, iV (miI (N : Int) L)), (65, ptr b6 32), (66, iV (N : Int)), (67, .bool ((miI (N : Int) L) != (N : Int))), (70, .agg ([(key).map u8V, [iV (N : Int), .slice Ax L.length cx]].flatten).toArray), (71, .agg ([(key).map u8V, [iV (N : Int), .slice A71 L.length c71]].flatten).toArray), (72, .agg ([(key).map u8V, [iV (N : Int), .slice A44 L.length c44]].flatten).toArray), (73, .bool (saB key (N : Int) L key (N : Int) L)), (74, .bool (!(saB key (N : Int) L key (N : Int) L))), (79, .slice A79 L.length c79), (85, .agg ([[iV (N : Int)], ([(L0.getD i default).p, 0#8, 0#8, 0#8, 0#8, 0#8, 0#8, 0#8, 0#8, 0#8, 0#8, 0#8, 0#8, 0#8, 0#8, 0#8, 0#8, 0#8, 0#8, 0#8, 0#8, 0#8, 0#8, 0#8, 0#8, 0#8, 0#8, 0#8, 0#8, 0#8, 0#8, 0#8]).map u8V].flatten).toArray)]) (hOf [(0, ⟨false, b, q, 0, encs ActTN L0, 0⟩), (2, ⟨true, b2, 0, 23, (key).map u8V, 0⟩), (5, ⟨true, b5, 0, 40, [(key).map u8V, [iV (N : Int), .slice Ax L.length cx]].flatten, 0⟩), (6, ⟨true, b6, 0, 44, [(key).map u8V, [iV (N : Int), .slice Aw L.length cw]].flatten, 0⟩), (7, (mRow b7 U)), (12, ⟨true, b12, 0, 40, [(miK key (N : Int) L).map u8V, [iV (miN (N : Int) L), .slice A57 ((miL (N : Int) L [(L0.getD i default).p, 0#8, 0#8, 0#8, 0#8, 0#8, 0#8, 0#8, 0#8, 0#8, 0#8, 0#8, 0#8, 0#8, 0#8, 0#8, 0#8, 0#8, 0#8, 0#8, 0#8, 0#8, 0#8, 0#8, 0#8, 0#8, 0#8, 0#8, 0#8, 0#8, 0#8, 0#8]).length) c57]].flatten, 0⟩), (44, ⟨true, b44, 0, 55, encs EntE L, (c44 - (L).length) * 33⟩), (57, ⟨true, b57, 0, 96, encs EntE (miL (N : Int) L [(L0.getD i default).p, 0#8, 0#8, 0#8, 0#8, 0#8, 0#8, 0#8, 0#8, 0#8, 0#8, 0#8, 0#8, 0#8, 0#8, 0#8, 0#8, 0#8, 0#8, 0#8, 0#8, 0#8, 0#8, 0#8, 0#8, 0#8, 0#8, 0#8, 0#8, 0#8, 0#8, 0#8]), (c57 - (miL (N : Int) L [(L0.getD i default).p, 0#8, 0#8, 0#8, 0#8, 0#8, 0#8, 0#8, 0#8, 0#8, 0#8, 0#8, 0#8, 0#8, 0#8, 0#8, 0#8, 0#8, 0#8, 0#8, 0#8, 0#8, 0#8, 0#8, 0#8, 0#8, 0#8, 0#8, 0#8, 0#8, 0#8, 0#8]).length) * 33⟩), (71, ⟨true, b71, 0, 55, encs EntE L, (c71 - (L).length) * 33⟩), (76, ⟨true, b79, 0, 55, encs EntE L, (c79 - (L).length) * 33⟩), (501, ⟨true, bx, 0, 96, encs EntE L, (cx - (L).length) * 33⟩), (601, ⟨true, bw, 0, 55, encs EntE WL, rw⟩)]) := by
         clear hG13_0 hG13_1
         refine hGo ?_
         refine At.bStep [10] (by kernel_rfl) (by simp) ?_
         refine At.bS false (by kernel_rfl) (S_buildSliceE (some 86) 86 (cs := [[iV (N : Int)], ([(L0.getD i default).p, 0#8, 0#8, 0#8, 0#8, 0#8, 0#8, 0#8, 0#8, 0#8, 0#8, 0#8, 0#8, 0#8, 0#8, 0#8, 0#8, 0#8, 0#8, 0#8, 0#8, 0#8, 0#8, 0#8, 0#8, 0#8, 0#8, 0#8, 0#8, 0#8, 0#8, 0#8]).map u8V].flatten) rfl Try.underlying42 sz55 ze55 rfl rfl LN (by decide) (by decide) (fun b86 => ?_))
         refine At.row 86 (⟨true, b86, 0, 55, encs EntE [mkEnt (N : Int) [(L0.getD i default).p, 0#8, 0#8, 0#8, 0#8, 0#8, 0#8, 0#8, 0#8, 0#8, 0#8, 0#8, 0#8, 0#8, 0#8, 0#8, 0#8, 0#8, 0#8, 0#8, 0#8, 0#8, 0#8, 0#8, 0#8, 0#8, 0#8, 0#8, 0#8, 0#8, 0#8, 0#8]], 0⟩) rfl (ent_row LN) ?_
         exact At.into (hGi (hG13_2 b76 A79 b79 c79 b86 g79a g79b)) rfl rfl
        have hG13_4 (b76 : Nat) (b86 : Nat) : G 4 #[true, true, true, false, true, true, true, true, true, true, true, false, false, false] (frOf [(1, .slice Ar nr c), (2, ptr b2 0), (5, ptr b5 0), (6, ptr b6 0), (7, .map (some b7)), (8, iV (i : Int)), (12, ptr b12 0), (34, iV (i : Int)), (35, .bool (decide ((i : Int) < 60))), (64, iV (miI (N : Int) L)), (65, ptr b6 32), (66, iV (N : Int)), (67, .bool ((miI (N : Int) L) != (N : Int))), (70, .agg ([(key).map u8V, [iV (N : Int), .slice Ax L.length cx]].flatten).toArray), (71, .agg ([(key).map u8V, [iV (N : Int), .slice A71 L.length c71]].flatten).toArray), (72, .agg ([(key).map u8V, [iV (N : Int), .slice A44 L.length c44]].flatten).toArray), (73, .bool (saB key (N : Int) L key (N : Int) L)), (74, .bool (!(saB key (N : Int) L key (N : Int) L))), (76, .slice (some ⟨b76, 0, none⟩) 0 0), (78, .slice Aw L.length cw), (86, .slice (some ⟨b86, 0, none⟩) 1 1)]) (hOf [(0, ⟨false, b, q, 0, encs ActTN L0, 0⟩), (2, ⟨true, b2, 0, 23, (key).map u8V, 0⟩), (5, ⟨true, b5, 0, 40, [(key).map u8V, [iV (N : Int), .slice Ax L.length cx]].flatten, 0⟩), (6, ⟨true, b6, 0, 44, [(key).map u8V, [iV (N : Int), .slice Aw L.length cw]].flatten, 0⟩), (7, (mRow b7 U)), (12, ⟨true, b12, 0, 40, [(miK key (N : Int) L).map u8V, [iV (miN (N : Int) L), .slice A57 ((miL (N : Int) L [(L0.getD i default).p, 0#8, 0#8, 0#8, 0#8, 0#8, 0#8, 0#8, 0#8, 0#8, 0#8, 0#8, 0#8, 0#8, 0#8, 0#8, 0#8, 0#8, 0#8, 0#8, 0#8, 0#8, 0#8, 0#8, 0#8, 0#8, 0#8, 0#8, 0#8, 0#8, 0#8, 0#8]).length) c57]].flatten, 0⟩), (44, ⟨true, b44, 0, 55, encs EntE L, (c44 - (L).length) * 33⟩), (57, ⟨true, b57, 0, 96, encs EntE (miL (N : Int) L [(L0.getD i default).p, 0#8, 0#8, 0#8, 0#8, 0#8, 0#8, 0#8, 0#8, 0#8, 0#8, 0#8, 0#8, 0#8, 0#8, 0#8, 0#8, 0#8, 0#8, 0#8, 0#8, 0#8, 0#8, 0#8, 0#8, 0#8, 0#8, 0#8, 0#8, 0#8, 0#8, 0#8]), (c57 - (miL (N : Int) L [(L0.getD i default).p, 0#8, 0#8, 0#8, 0#8, 0#8, 0#8, 0#8, 0#8, 0#8, 0#8, 0#8, 0#8, 0#8, 0#8, 0#8, 0#8, 0#8, 0#8, 0#8, 0#8, 0#8, 0#8, 0#8, 0#8, 0#8, 0#8, 0#8, 0#8, 0#8, 0#8, 0#8]).length) * 33⟩), (71, ⟨true, b71, 0, 55, encs EntE L, (c71 - (L).length) * 33⟩), (76, ⟨true, b76, 0, 55, [], 0⟩), (86, ⟨true, b86, 0, 55, encs EntE [mkEnt (N : Int) [(L0.getD i default).p, 0#8, 0#8, 0#8, 0#8, 0#8, 0#8, 0#8, 0#8, 0#8, 0#8, 0#8, 0#8, 0#8, 0#8, 0#8, 0#8, 0#8, 0#8, 0#8, 0#8, 0#8, 0#8, 0#8, 0#8, 0#8, 0#8, 0#8, 0#8, 0#8, 0#8, 0#8]], 0⟩), (501, ⟨true, bx, 0, 96, encs EntE L, (cx - (L).length) * 33⟩), (601, ⟨true, bw, 0, 55, encs EntE WL, rw⟩)]) := by
         clear hG13_0 hG13_1 hG13_3
         refine hGo ?_
         refine At.bStep [3] (by kernel_rfl) (by simp) ?_
         refine At.bS true (by kernel_rfl) (S_appendE (en := EntE) (some 79) 76 (L) (l := []) (L := L) (m := L.length) (sz := 33) rfl rfl Try.underlying42 Try.underlying42 (.inr ⟨_, rfl⟩) sz55 by55 ze55 rfl rfl (fun h => ⟨rfl, rfl⟩) LN OG OG (srcD hWL (SrcE.tail (en := EntE) (k := 601) (j := o) (L := WL) rfl rfl hAw (fun _ => ⟨rfl, rfl, OG⟩) OG)) OG OG (by rfl) LN ?_)
         intro A79 b79 c79 g79a g79b
         exact At.into (hGi (hG13_2 b76 A79 b79 c79 b86 g79a g79b)) rfl rfl
        have hG13_5 (b76 : Nat) : G 5 #[true, true, true, false, true, true, true, true, true, true, false, false, false, false] (frOf [(1, .slice Ar nr c), (2, ptr b2 0), (5, ptr b5 0), (6, ptr b6 0), (7, .map (some b7)), (8, iV (i : Int)), (12, ptr b12 0), (34, iV (i : Int)), (35, .bool (decide ((i : Int) < 60))), (64, iV (miI (N : Int) L)), (65, ptr b6 32), (66, iV (N : Int)), (67, .bool ((miI (N : Int) L) != (N : Int))), (70, .agg ([(key).map u8V, [iV (N : Int), .slice Ax L.length cx]].flatten).toArray), (71, .agg ([(key).map u8V, [iV (N : Int), .slice A71 L.length c71]].flatten).toArray), (72, .agg ([(key).map u8V, [iV (N : Int), .slice A44 L.length c44]].flatten).toArray), (73, .bool (saB key (N : Int) L key (N : Int) L)), (74, .bool (!(saB key (N : Int) L key (N : Int) L))), (76, .slice (some ⟨b76, 0, none⟩) 0 0), (78, .slice Aw L.length cw), (85, .agg ([[iV (N : Int)], ([(L0.getD i default).p, 0#8, 0#8, 0#8, 0#8, 0#8, 0#8, 0#8, 0#8, 0#8, 0#8, 0#8, 0#8, 0#8, 0#8, 0#8, 0#8, 0#8, 0#8, 0#8, 0#8, 0#8, 0#8, 0#8, 0#8, 0#8, 0#8, 0#8, 0#8, 0#8, 0#8, 0#8]).map u8V].flatten).toArray)]) (hOf [(0, ⟨false, b, q, 0, encs ActTN L0, 0⟩), (2, ⟨true, b2, 0, 23, (key).map u8V, 0⟩), (5, ⟨true, b5, 0, 40, [(key).map u8V, [iV (N : Int), .slice Ax L.length cx]].flatten, 0⟩), (6, ⟨true, b6, 0, 44, [(key).map u8V, [iV (N : Int), .slice Aw L.length cw]].flatten, 0⟩), (7, (mRow b7 U)), (12, ⟨true, b12, 0, 40, [(miK key (N : Int) L).map u8V, [iV (miN (N : Int) L), .slice A57 ((miL (N : Int) L [(L0.getD i default).p, 0#8, 0#8, 0#8, 0#8, 0#8, 0#8, 0#8, 0#8, 0#8, 0#8, 0#8, 0#8, 0#8, 0#8, 0#8, 0#8, 0#8, 0#8, 0#8, 0#8, 0#8, 0#8, 0#8, 0#8, 0#8, 0#8, 0#8, 0#8, 0#8, 0#8, 0#8]).length) c57]].flatten, 0⟩), (44, ⟨true, b44, 0, 55, encs EntE L, (c44 - (L).length) * 33⟩), (57, ⟨true, b57, 0, 96, encs EntE (miL (N : Int) L [(L0.getD i default).p, 0#8, 0#8, 0#8, 0#8, 0#8, 0#8, 0#8, 0#8, 0#8, 0#8, 0#8, 0#8, 0#8, 0#8, 0#8, 0#8, 0#8, 0#8, 0#8, 0#8, 0#8, 0#8, 0#8, 0#8, 0#8, 0#8, 0#8, 0#8, 0#8, 0#8, 0#8]), (c57 - (miL (N : Int) L [(L0.getD i default).p, 0#8, 0#8, 0#8, 0#8, 0#8, 0#8, 0#8, 0#8, 0#8, 0#8, 0#8, 0#8, 0#8, 0#8, 0#8, 0#8, 0#8, 0#8, 0#8, 0#8, 0#8, 0#8, 0#8, 0#8, 0#8, 0#8, 0#8, 0#8, 0#8, 0#8, 0#8]).length) * 33⟩), (71, ⟨true, b71, 0, 55, encs EntE L, (c71 - (L).length) * 33⟩), (76, ⟨true, b76, 0, 55, [], 0⟩), (501, ⟨true, bx, 0, 96, encs EntE L, (cx - (L).length) * 33⟩), (601, ⟨true, bw, 0, 55, encs EntE WL, rw⟩)]) := by
         clear hG13_0 hG13_1 hG13_2
         refine hGo ?_
         refine At.bStep [3, 10] (by kernel_rfl) (by simp) ?_
         refine ⟨?_, ?_⟩
         ·
          refine At.bS true (by kernel_rfl) (S_appendE (en := EntE) (some 79) 76 (L) (l := []) (L := L) (m := L.length) (sz := 33) rfl rfl Try.underlying42 Try.underlying42 (.inr ⟨_, rfl⟩) sz55 by55 ze55 rfl rfl (fun h => ⟨rfl, rfl⟩) LN OG OG (srcD hWL (SrcE.tail (en := EntE) (k := 601) (j := o) (L := WL) rfl rfl hAw (fun _ => ⟨rfl, rfl, OG⟩) OG)) OG OG (by rfl) LN ?_)
          intro A79 b79 c79 g79a g79b
          exact At.into (hGi (hG13_3 b76 A79 b79 c79 g79a g79b)) rfl rfl
         ·
          refine At.bS false (by kernel_rfl) (S_buildSliceE (some 86) 86 (cs := [[iV (N : Int)], ([(L0.getD i default).p, 0#8, 0#8, 0#8, 0#8, 0#8, 0#8, 0#8, 0#8, 0#8, 0#8, 0#8, 0#8, 0#8, 0#8, 0#8, 0#8, 0#8, 0#8, 0#8, 0#8, 0#8, 0#8, 0#8, 0#8, 0#8, 0#8, 0#8, 0#8, 0#8, 0#8, 0#8]).map u8V].flatten) rfl Try.underlying42 sz55 ze55 rfl rfl LN (by decide) (by decide) (fun b86 => ?_))
          refine At.row 86 (⟨true, b86, 0, 55, encs EntE [mkEnt (N : Int) [(L0.getD i default).p, 0#8, 0#8, 0#8, 0#8, 0#8, 0#8, 0#8, 0#8, 0#8, 0#8, 0#8, 0#8, 0#8, 0#8, 0#8, 0#8, 0#8, 0#8, 0#8, 0#8, 0#8, 0#8, 0#8, 0#8, 0#8, 0#8, 0#8, 0#8, 0#8, 0#8, 0#8]], 0⟩) rfl (ent_row LN) ?_
          exact At.into (hGi (hG13_4 b76 b86)) rfl rfl
        have hG13_6 (b76 : Nat) (b86 : Nat) : G 5 #[true, true, false, false, true, true, true, true, true, true, true, false, false, false] (frOf [(1, .slice Ar nr c), (2, ptr b2 0), (5, ptr b5 0), (6, ptr b6 0), (7, .map (some b7)), (8, iV (i : Int)), (12, ptr b12 0), (34, iV (i : Int)), (35, .bool (decide ((i : Int) < 60))), (64, iV (miI (N : Int) L)), (65, ptr b6 32), (66, iV (N : Int)), (67, .bool ((miI (N : Int) L) != (N : Int))), (70, .agg ([(key).map u8V, [iV (N : Int), .slice Ax L.length cx]].flatten).toArray), (71, .agg ([(key).map u8V, [iV (N : Int), .slice A71 L.length c71]].flatten).toArray), (72, .agg ([(key).map u8V, [iV (N : Int), .slice A44 L.length c44]].flatten).toArray), (73, .bool (saB key (N : Int) L key (N : Int) L)), (74, .bool (!(saB key (N : Int) L key (N : Int) L))), (76, .slice (some ⟨b76, 0, none⟩) 0 0), (77, ptr b6 33), (86, .slice (some ⟨b86, 0, none⟩) 1 1)]) (hOf [(0, ⟨false, b, q, 0, encs ActTN L0, 0⟩), (2, ⟨true, b2, 0, 23, (key).map u8V, 0⟩), (5, ⟨true, b5, 0, 40, [(key).map u8V, [iV (N : Int), .slice Ax L.length cx]].flatten, 0⟩), (6, ⟨true, b6, 0, 44, [(key).map u8V, [iV (N : Int), .slice Aw L.length cw]].flatten, 0⟩), (7, (mRow b7 U)), (12, ⟨true, b12, 0, 40, [(miK key (N : Int) L).map u8V, [iV (miN (N : Int) L), .slice A57 ((miL (N : Int) L [(L0.getD i default).p, 0#8, 0#8, 0#8, 0#8, 0#8, 0#8, 0#8, 0#8, 0#8, 0#8, 0#8, 0#8, 0#8, 0#8, 0#8, 0#8, 0#8, 0#8, 0#8, 0#8, 0#8, 0#8, 0#8, 0#8, 0#8, 0#8, 0#8, 0#8, 0#8, 0#8, 0#8]).length) c57]].flatten, 0⟩), (44, ⟨true, b44, 0, 55, encs EntE L, (c44 - (L).length) * 33⟩), (57, ⟨true, b57, 0, 96, encs EntE (miL (N : Int) L [(L0.getD i default).p, 0#8, 0#8, 0#8, 0#8, 0#8, 0#8, 0#8, 0#8, 0#8, 0#8, 0#8, 0#8, 0#8, 0#8, 0#8, 0#8, 0#8, 0#8, 0#8, 0#8, 0#8, 0#8, 0#8, 0#8, 0#8, 0#8, 0#8, 0#8, 0#8, 0#8, 0#8]), (c57 - (miL (N : Int) L [(L0.getD i default).p, 0#8, 0#8, 0#8, 0#8, 0#8, 0#8, 0#8, 0#8, 0#8, 0#8, 0#8, 0#8, 0#8, 0#8, 0#8, 0#8, 0#8, 0#8, 0#8, 0#8, 0#8, 0#8, 0#8, 0#8, 0#8, 0#8, 0#8, 0#8, 0#8, 0#8, 0#8]).length) * 33⟩), (71, ⟨true, b71, 0, 55, encs EntE L, (c71 - (L).length) * 33⟩), (76, ⟨true, b76, 0, 55, [], 0⟩), (86, ⟨true, b86, 0, 55, encs EntE [mkEnt (N : Int) [(L0.getD i default).p, 0#8, 0#8, 0#8, 0#8, 0#8, 0#8, 0#8, 0#8, 0#8, 0#8, 0#8, 0#8, 0#8, 0#8, 0#8, 0#8, 0#8, 0#8, 0#8, 0#8, 0#8, 0#8, 0#8, 0#8, 0#8, 0#8, 0#8, 0#8, 0#8, 0#8, 0#8]], 0⟩), (501, ⟨true, bx, 0, 96, encs EntE L, (cx - (L).length) * 33⟩), (601, ⟨true, bw, 0, 55, encs EntE WL, rw⟩)]) := by
         clear hG13_0 hG13_1 hG13_2 hG13_3 hG13_5
         refine hGo ?_
         refine At.bStep [2] (by kernel_rfl) (by simp) ?_
         refine At.bSQ (some 78) (Q_loadO (k := 6) rfl rfl Try.underlying42 rfl rfl (seg_get (i := 1) (p := 1) rfl LN rfl)) ?_
         exact At.into (hGi (hG13_4 b76 b86)) rfl rfl
        have hG13_7 (b86 : Nat) : G 5 #[false, true, true, false, true, true, true, true, true, true, true, false, false, false] (frOf [(1, .slice Ar nr c), (2, ptr b2 0), (5, ptr b5 0), (6, ptr b6 0), (7, .map (some b7)), (8, iV (i : Int)), (12, ptr b12 0), (34, iV (i : Int)), (35, .bool (decide ((i : Int) < 60))), (64, iV (miI (N : Int) L)), (65, ptr b6 32), (66, iV (N : Int)), (67, .bool ((miI (N : Int) L) != (N : Int))), (70, .agg ([(key).map u8V, [iV (N : Int), .slice Ax L.length cx]].flatten).toArray), (71, .agg ([(key).map u8V, [iV (N : Int), .slice A71 L.length c71]].flatten).toArray), (72, .agg ([(key).map u8V, [iV (N : Int), .slice A44 L.length c44]].flatten).toArray), (73, .bool (saB key (N : Int) L key (N : Int) L)), (74, .bool (!(saB key (N : Int) L key (N : Int) L))), (78, .slice Aw L.length cw), (86, .slice (some ⟨b86, 0, none⟩) 1 1)]) (hOf [(0, ⟨false, b, q, 0, encs ActTN L0, 0⟩), (2, ⟨true, b2, 0, 23, (key).map u8V, 0⟩), (5, ⟨true, b5, 0, 40, [(key).map u8V, [iV (N : Int), .slice Ax L.length cx]].flatten, 0⟩), (6, ⟨true, b6, 0, 44, [(key).map u8V, [iV (N : Int), .slice Aw L.length cw]].flatten, 0⟩), (7, (mRow b7 U)), (12, ⟨true, b12, 0, 40, [(miK key (N : Int) L).map u8V, [iV (miN (N : Int) L), .slice A57 ((miL (N : Int) L [(L0.getD i default).p, 0#8, 0#8, 0#8, 0#8, 0#8, 0#8, 0#8, 0#8, 0#8, 0#8, 0#8, 0#8, 0#8, 0#8, 0#8, 0#8, 0#8, 0#8, 0#8, 0#8, 0#8, 0#8, 0#8, 0#8, 0#8, 0#8, 0#8, 0#8, 0#8, 0#8, 0#8]).length) c57]].flatten, 0⟩), (44, ⟨true, b44, 0, 55, encs EntE L, (c44 - (L).length) * 33⟩), (57, ⟨true, b57, 0, 96, encs EntE (miL (N : Int) L [(L0.getD i default).p, 0#8, 0#8, 0#8, 0#8, 0#8, 0#8, 0#8, 0#8, 0#8, 0#8, 0#8, 0#8, 0#8, 0#8, 0#8, 0#8, 0#8, 0#8, 0#8, 0#8, 0#8, 0#8, 0#8, 0#8, 0#8, 0#8, 0#8, 0#8, 0#8, 0#8, 0#8]), (c57 - (miL (N : Int) L [(L0.getD i default).p, 0#8, 0#8, 0#8, 0#8, 0#8, 0#8, 0#8, 0#8, 0#8, 0#8, 0#8, 0#8, 0#8, 0#8, 0#8, 0#8, 0#8, 0#8, 0#8, 0#8, 0#8, 0#8, 0#8, 0#8, 0#8, 0#8, 0#8, 0#8, 0#8, 0#8, 0#8]).length) * 33⟩), (71, ⟨true, b71, 0, 55, encs EntE L, (c71 - (L).length) * 33⟩), (86, ⟨true, b86, 0, 55, encs EntE [mkEnt (N : Int) [(L0.getD i default).p, 0#8, 0#8, 0#8, 0#8, 0#8, 0#8, 0#8, 0#8, 0#8, 0#8, 0#8, 0#8, 0#8, 0#8, 0#8, 0#8, 0#8, 0#8, 0#8, 0#8, 0#8, 0#8, 0#8, 0#8, 0#8, 0#8, 0#8, 0#8, 0#8, 0#8, 0#8]], 0⟩), (501, ⟨true, bx, 0, 96, encs EntE L, (cx - (L).length) * 33⟩), (601, ⟨true, bw, 0, 55, encs EntE WL, rw⟩)]) := by
         clear hG13_0 hG13_1 hG13_2 hG13_3 hG13_5 hG13_6
         refine hGo ?_
         refine At.bStep [0] (by kernel_rfl) (by simp) ?_
         refine At.bS false (by kernel_rfl) (S_buildSlice0 (some 76) 76 rfl Try.underlying42 sz55 (fun b76 => ?_))
         exact At.into (hGi (hG13_4 b76 b86)) rfl rfl
        have hG13_8 (b76 : Nat) (A79 : Option Addr) (b79 c79 : Nat) (g79a : 0 < c79 → A79 = some ⟨b79, 0, none⟩) (g79b : L.length ≤ c79) : G 6 #[true, true, true, true, true, false, true, true, true, false, false, false, false, false] (frOf [(1, .slice Ar nr c), (2, ptr b2 0), (5, ptr b5 0), (6, ptr b6 0), (7, .map (some b7)), (8, iV (i : Int)), (12, ptr b12 0), (34, iV (i : Int)), (35, .bool (decide ((i : Int) < 60))), (64, iV (miI (N : Int) L)), (65, ptr b6 32), (66, iV (N : Int)), (67, .bool ((miI (N : Int) L) != (N : Int))), (70, .agg ([(key).map u8V, [iV (N : Int), .slice Ax L.length cx]].flatten).toArray), (71, .agg ([(key).map u8V, [iV (N : Int), .slice A71 L.length c71]].flatten).toArray), (72, .agg ([(key).map u8V, [iV (N : Int), .slice A44 L.length c44]].flatten).toArray), (73, .bool (saB key (N : Int) L key (N : Int) L)), (74, .bool (!(saB key (N : Int) L key (N : Int) L))), (79, .slice A79 L.length c79), (80, ptr b6 32), (84, aggK [(L0.getD i default).p, 0#8, 0#8, 0#8, 0#8, 0#8, 0#8, 0#8, 0#8, 0#8, 0#8, 0#8, 0#8, 0#8, 0#8, 0#8, 0#8, 0#8, 0#8, 0#8, 0#8, 0#8, 0#8, 0#8, 0#8, 0#8, 0#8, 0#8, 0#8, 0#8, 0#8, 0#8])]) (hOf [(0, ⟨false, b, q, 0, encs ActTN L0, 0⟩), (2, ⟨true, b2, 0, 23, (key).map u8V, 0⟩), (5, ⟨true, b5, 0, 40, [(key).map u8V, [iV (N : Int), .slice Ax L.length cx]].flatten, 0⟩), (6, ⟨true, b6, 0, 44, [(key).map u8V, [iV (N : Int), .slice Aw L.length cw]].flatten, 0⟩), (7, (mRow b7 U)), (12, ⟨true, b12, 0, 40, [(miK key (N : Int) L).map u8V, [iV (miN (N : Int) L), .slice A57 ((miL (N : Int) L [(L0.getD i default).p, 0#8, 0#8, 0#8, 0#8, 0#8, 0#8, 0#8, 0#8, 0#8, 0#8, 0#8, 0#8, 0#8, 0#8, 0#8, 0#8, 0#8, 0#8, 0#8, 0#8, 0#8, 0#8, 0#8, 0#8, 0#8, 0#8, 0#8, 0#8, 0#8, 0#8, 0#8]).length) c57]].flatten, 0⟩), (44, ⟨true, b44, 0, 55, encs EntE L, (c44 - (L).length) * 33⟩), (57, ⟨true, b57, 0, 96, encs EntE (miL (N : Int) L [(L0.getD i default).p, 0#8, 0#8, 0#8, 0#8, 0#8, 0#8, 0#8, 0#8, 0#8, 0#8, 0#8, 0#8, 0#8, 0#8, 0#8, 0#8, 0#8, 0#8, 0#8, 0#8, 0#8, 0#8, 0#8, 0#8, 0#8, 0#8, 0#8, 0#8, 0#8, 0#8, 0#8]), (c57 - (miL (N : Int) L [(L0.getD i default).p, 0#8, 0#8, 0#8, 0#8, 0#8, 0#8, 0#8, 0#8, 0#8, 0#8, 0#8, 0#8, 0#8, 0#8, 0#8, 0#8, 0#8, 0#8, 0#8, 0#8, 0#8, 0#8, 0#8, 0#8, 0#8, 0#8, 0#8, 0#8, 0#8, 0#8, 0#8]).length) * 33⟩), (71, ⟨true, b71, 0, 55, encs EntE L, (c71 - (L).length) * 33⟩), (76, ⟨true, b79, 0, 55, encs EntE L, (c79 - (L).length) * 33⟩), (501, ⟨true, bx, 0, 96, encs EntE L, (cx - (L).length) * 33⟩), (601, ⟨true, bw, 0, 55, encs EntE WL, rw⟩)]) := by
         clear hG13_0 hG13_1 hG13_2 hG13_4 hG13_5 hG13_6 hG13_7
         refine hGo ?_
         refine At.bStep [5] (by kernel_rfl) (by simp) ?_
         refine At.bSQ (some 81) (Q_loadO (k := 6) rfl rfl Try.underlying3 rfl rfl (seg_get (i := 1) (p := 0) rfl LN rfl)) ?_
         refine At.bP  9 (some 85) (P_build_struct (cs := ([[iV (N : Int)], ([(L0.getD i default).p, 0#8, 0#8, 0#8, 0#8, 0#8, 0#8, 0#8, 0#8, 0#8, 0#8, 0#8, 0#8, 0#8, 0#8, 0#8, 0#8, 0#8, 0#8, 0#8, 0#8, 0#8, 0#8, 0#8, 0#8, 0#8, 0#8, 0#8, 0#8, 0#8, 0#8, 0#8]).map u8V].flatten).toArray) (parts := _) (vs := [(0, _), (1, _)]) rfl Try.underlying55 ze55 pl55 rfl (by show Instr.fill _ ([[iV 0], (List.replicate 32 0#8).map u8V].flatten).toArray _ = _; refine fill_seg (k := 0) (vs := [iV (N : Int)]) rfl rfl LN rfl LN LN ?_; refine fill_seg (k := 1) (vs := ([(L0.getD i default).p, 0#8, 0#8, 0#8, 0#8, 0#8, 0#8, 0#8, 0#8, 0#8, 0#8, 0#8, 0#8, 0#8, 0#8, 0#8, 0#8, 0#8, 0#8, 0#8, 0#8, 0#8, 0#8, 0#8, 0#8, 0#8, 0#8, 0#8, 0#8, 0#8, 0#8, 0#8]).map u8V) rfl rfl LN rfl LN LN ?_; exact fill_end (by simp))) (by kernel_rfl) (by kernel_rfl) ?_
         exact At.into (hGi (hG13_3 b76 A79 b79 c79 g79a g79b)) rfl rfl
        have hG13_9 (b76 : Nat) : G 6 #[true, true, false, false, true, true, true, true, true, true, false, false, false, false] (frOf [(1, .slice Ar nr c), (2, ptr b2 0), (5, ptr b5 0), (6, ptr b6 0), (7, .map (some b7)), (8, iV (i : Int)), (12, ptr b12 0), (34, iV (i : Int)), (35, .bool (decide ((i : Int) < 60))), (64, iV (miI (N : Int) L)), (65, ptr b6 32), (66, iV (N : Int)), (67, .bool ((miI (N : Int) L) != (N : Int))), (70, .agg ([(key).map u8V, [iV (N : Int), .slice Ax L.length cx]].flatten).toArray), (71, .agg ([(key).map u8V, [iV (N : Int), .slice A71 L.length c71]].flatten).toArray), (72, .agg ([(key).map u8V, [iV (N : Int), .slice A44 L.length c44]].flatten).toArray), (73, .bool (saB key (N : Int) L key (N : Int) L)), (74, .bool (!(saB key (N : Int) L key (N : Int) L))), (76, .slice (some ⟨b76, 0, none⟩) 0 0), (77, ptr b6 33), (85, .agg ([[iV (N : Int)], ([(L0.getD i default).p, 0#8, 0#8, 0#8, 0#8, 0#8, 0#8, 0#8, 0#8, 0#8, 0#8, 0#8, 0#8, 0#8, 0#8, 0#8, 0#8, 0#8, 0#8, 0#8, 0#8, 0#8, 0#8, 0#8, 0#8, 0#8, 0#8, 0#8, 0#8, 0#8, 0#8, 0#8]).map u8V].flatten).toArray)]) (hOf [(0, ⟨false, b, q, 0, encs ActTN L0, 0⟩), (2, ⟨true, b2, 0, 23, (key).map u8V, 0⟩), (5, ⟨true, b5, 0, 40, [(key).map u8V, [iV (N : Int), .slice Ax L.length cx]].flatten, 0⟩), (6, ⟨true, b6, 0, 44, [(key).map u8V, [iV (N : Int), .slice Aw L.length cw]].flatten, 0⟩), (7, (mRow b7 U)), (12, ⟨true, b12, 0, 40, [(miK key (N : Int) L).map u8V, [iV (miN (N : Int) L), .slice A57 ((miL (N : Int) L [(L0.getD i default).p, 0#8, 0#8, 0#8, 0#8, 0#8, 0#8, 0#8, 0#8, 0#8, 0#8, 0#8, 0#8, 0#8, 0#8, 0#8, 0#8, 0#8, 0#8, 0#8, 0#8, 0#8, 0#8, 0#8, 0#8, 0#8, 0#8, 0#8, 0#8, 0#8, 0#8, 0#8]).length) c57]].flatten, 0⟩), (44, ⟨true, b44, 0, 55, encs EntE L, (c44 - (L).length) * 33⟩), (57, ⟨true, b57, 0, 96, encs EntE (miL (N : Int) L [(L0.getD i default).p, 0#8, 0#8, 0#8, 0#8, 0#8, 0#8, 0#8, 0#8, 0#8, 0#8, 0#8, 0#8, 0#8, 0#8, 0#8, 0#8, 0#8, 0#8, 0#8, 0#8, 0#8, 0#8, 0#8, 0#8, 0#8, 0#8, 0#8, 0#8, 0#8, 0#8, 0#8]), (c57 - (miL (N : Int) L [(L0.getD i default).p, 0#8, 0#8, 0#8, 0#8, 0#8, 0#8, 0#8, 0#8, 0#8, 0#8, 0#8, 0#8, 0#8, 0#8, 0#8, 0#8, 0#8, 0#8, 0#8, 0#8, 0#8, 0#8, 0#8, 0#8, 0#8, 0#8, 0#8, 0#8, 0#8, 0#8, 0#8]).length) * 33⟩), (71, ⟨true, b71, 0, 55, encs EntE L, (c71 - (L).length) * 33⟩), (76, ⟨true, b76, 0, 55, [], 0⟩), (501, ⟨true, bx, 0, 96, encs EntE L, (cx - (L).length) * 33⟩), (601, ⟨true, bw, 0, 55, encs EntE WL, rw⟩)]) := by
         clear hG13_0 hG13_1 hG13_2 hG13_3 hG13_4 hG13_7 hG13_8
         refine hGo ?_
         refine At.bStep [2, 10] (by kernel_rfl) (by simp) ?_
         refine ⟨?_, ?_⟩
         ·
          refine At.bSQ (some 78) (Q_loadO (k := 6) rfl rfl Try.underlying42 rfl rfl (seg_get (i := 1) (p := 1) rfl LN rfl)) ?_
          exact At.into (hGi (hG13_5 b76)) rfl rfl
         ·
          refine At.bS false (by kernel_rfl) (S_buildSliceE (some 86) 86 (cs := [[iV (N : Int)], ([(L0.getD i default).p, 0#8, 0#8, 0#8, 0#8, 0#8, 0#8, 0#8, 0#8, 0#8, 0#8, 0#8, 0#8, 0#8, 0#8, 0#8, 0#8, 0#8, 0#8, 0#8, 0#8, 0#8, 0#8, 0#8, 0#8, 0#8, 0#8, 0#8, 0#8, 0#8, 0#8, 0#8]).map u8V].flatten) rfl Try.underlying42 sz55 ze55 rfl rfl LN (by decide) (by decide) (fun b86 => ?_))
          refine At.row 86 (⟨true, b86, 0, 55, encs EntE [mkEnt (N : Int) [(L0.getD i default).p, 0#8, 0#8, 0#8, 0#8, 0#8, 0#8, 0#8, 0#8, 0#8, 0#8, 0#8, 0#8, 0#8, 0#8, 0#8, 0#8, 0#8, 0#8, 0#8, 0#8, 0#8, 0#8, 0#8, 0#8, 0#8, 0#8, 0#8, 0#8, 0#8, 0#8, 0#8]], 0⟩) rfl (ent_row LN) ?_
          exact At.into (hGi (hG13_6 b76 b86)) rfl rfl
        have hG13_10  : G 6 #[false, true, true, false, true, true, true, true, true, true, false, false, false, false] (frOf [(1, .slice Ar nr c), (2, ptr b2 0), (5, ptr b5 0), (6, ptr b6 0), (7, .map (some b7)), (8, iV (i : Int)), (12, ptr b12 0), (34, iV (i : Int)), (35, .bool (decide ((i : Int) < 60))), (64, iV (miI (N : Int) L)), (65, ptr b6 32), (66, iV (N : Int)), (67, .bool ((miI (N : Int) L) != (N : Int))), (70, .agg ([(key).map u8V, [iV (N : Int), .slice Ax L.length cx]].flatten).toArray), (71, .agg ([(key).map u8V, [iV (N : Int), .slice A71 L.length c71]].flatten).toArray), (72, .agg ([(key).map u8V, [iV (N : Int), .slice A44 L.length c44]].flatten).toArray), (73, .bool (saB key (N : Int) L key (N : Int) L)), (74, .bool (!(saB key (N : Int) L key (N : Int) L))), (78, .slice Aw L.length cw), (85, .agg ([[iV (N : Int)], ([(L0.getD i default).p, 0#8, 0#8, 0#8, 0#8, 0#8, 0#8, 0#8, 0#8, 0#8, 0#8, 0#8, 0#8, 0#8, 0#8, 0#8, 0#8, 0#8, 0#8, 0#8, 0#8, 0#8, 0#8, 0#8, 0#8, 0#8, 0#8, 0#8, 0#8, 0#8, 0#8, 0#8]).map u8V].flatten).toArray)]) (hOf [(0, ⟨false, b, q, 0, encs ActTN L0, 0⟩), (2, ⟨true, b2, 0, 23, (key).map u8V, 0⟩), (5, ⟨true, b5, 0, 40, [(key).map u8V, [iV (N : Int), .slice Ax L.length cx]].flatten, 0⟩), (6, ⟨true, b6, 0, 44, [(key).map u8V, [iV (N : Int), .slice Aw L.length cw]].flatten, 0⟩), (7, (mRow b7 U)), (12, ⟨true, b12, 0, 40, [(miK key (N : Int) L).map u8V, [iV (miN (N : Int) L), .slice A57 ((miL (N : Int) L [(L0.getD i default).p, 0#8, 0#8, 0#8, 0#8, 0#8, 0#8, 0#8, 0#8, 0#8, 0#8, 0#8, 0#8, 0#8, 0#8, 0#8, 0#8, 0#8, 0#8, 0#8, 0#8, 0#8, 0#8, 0#8, 0#8, 0#8, 0#8, 0#8, 0#8, 0#8, 0#8, 0#8]).length) c57]].flatten, 0⟩), (44, ⟨true, b44, 0, 55, encs EntE L, (c44 - (L).length) * 33⟩), (57, ⟨true, b57, 0, 96, encs EntE (miL (N : Int) L [(L0.getD i default).p, 0#8, 0#8, 0#8, 0#8, 0#8, 0#8, 0#8, 0#8, 0#8, 0#8, 0#8, 0#8, 0#8, 0#8, 0#8, 0#8, 0#8, 0#8, 0#8, 0#8, 0#8, 0#8, 0#8, 0#8, 0#8, 0#8, 0#8, 0#8, 0#8, 0#8, 0#8]), (c57 - (miL (N : Int) L [(L0.getD i default).p, 0#8, 0#8, 0#8, 0#8, 0#8, 0#8, 0#8, 0#8, 0#8, 0#8, 0#8, 0#8, 0#8, 0#8, 0#8, 0#8, 0#8, 0#8, 0#8, 0#8, 0#8, 0#8, 0#8, 0#8, 0#8, 0#8, 0#8, 0#8, 0#8, 0#8, 0#8]).length) * 33⟩), (71, ⟨true, b71, 0, 55, encs EntE L, (c71 - (L).length) * 33⟩), (501, ⟨true, bx, 0, 96, encs EntE L, (cx - (L).length) * 33⟩), (601, ⟨true, bw, 0, 55, encs EntE WL, rw⟩)]) := by
         clear hG13_0 hG13_1 hG13_2 hG13_3 hG13_4 hG13_6 hG13_8 hG13_9
         refine hGo ?_
         refine At.bStep [0, 10] (by kernel_rfl) (by simp) ?_
         refine ⟨?_, ?_⟩
         ·
          refine At.bS false (by kernel_rfl) (S_buildSlice0 (some 76) 76 rfl Try.underlying42 sz55 (fun b76 => ?_))
          exact At.into (hGi (hG13_5 b76)) rfl rfl
         ·
          refine At.bS false (by kernel_rfl) (S_buildSliceE (some 86) 86 (cs := [[iV (N : Int)], ([(L0.getD i default).p, 0#8, 0#8, 0#8, 0#8, 0#8, 0#8, 0#8, 0#8, 0#8, 0#8, 0#8, 0#8, 0#8, 0#8, 0#8, 0#8, 0#8, 0#8, 0#8, 0#8, 0#8, 0#8, 0#8, 0#8, 0#8, 0#8, 0#8, 0#8, 0#8, 0#8, 0#8]).map u8V].flatten) rfl Try.underlying42 sz55 ze55 rfl rfl LN (by decide) (by decide) (fun b86 => ?_))
          refine At.row 86 (⟨true, b86, 0, 55, encs EntE [mkEnt (N : Int) [(L0.getD i default).p, 0#8, 0#8, 0#8, 0#8, 0#8, 0#8, 0#8, 0#8, 0#8, 0#8, 0#8, 0#8, 0#8, 0#8, 0#8, 0#8, 0#8, 0#8, 0#8, 0#8, 0#8, 0#8, 0#8, 0#8, 0#8, 0#8, 0#8, 0#8, 0#8, 0#8, 0#8]], 0⟩) rfl (ent_row LN) ?_
          exact At.into (hGi (hG13_7 b86)) rfl rfl
        have hG13_11 (b86 : Nat) : G 6 #[false, true, false, false, true, true, true, true, true, true, true, false, false, false] (frOf [(1, .slice Ar nr c), (2, ptr b2 0), (5, ptr b5 0), (6, ptr b6 0), (7, .map (some b7)), (8, iV (i : Int)), (12, ptr b12 0), (34, iV (i : Int)), (35, .bool (decide ((i : Int) < 60))), (64, iV (miI (N : Int) L)), (65, ptr b6 32), (66, iV (N : Int)), (67, .bool ((miI (N : Int) L) != (N : Int))), (70, .agg ([(key).map u8V, [iV (N : Int), .slice Ax L.length cx]].flatten).toArray), (71, .agg ([(key).map u8V, [iV (N : Int), .slice A71 L.length c71]].flatten).toArray), (72, .agg ([(key).map u8V, [iV (N : Int), .slice A44 L.length c44]].flatten).toArray), (73, .bool (saB key (N : Int) L key (N : Int) L)), (74, .bool (!(saB key (N : Int) L key (N : Int) L))), (77, ptr b6 33), (86, .slice (some ⟨b86, 0, none⟩) 1 1)]) (hOf [(0, ⟨false, b, q, 0, encs ActTN L0, 0⟩), (2, ⟨true, b2, 0, 23, (key).map u8V, 0⟩), (5, ⟨true, b5, 0, 40, [(key).map u8V, [iV (N : Int), .slice Ax L.length cx]].flatten, 0⟩), (6, ⟨true, b6, 0, 44, [(key).map u8V, [iV (N : Int), .slice Aw L.length cw]].flatten, 0⟩), (7, (mRow b7 U)), (12, ⟨true, b12, 0, 40, [(miK key (N : Int) L).map u8V, [iV (miN (N : Int) L), .slice A57 ((miL (N : Int) L [(L0.getD i default).p, 0#8, 0#8, 0#8, 0#8, 0#8, 0#8, 0#8, 0#8, 0#8, 0#8, 0#8, 0#8, 0#8, 0#8, 0#8, 0#8, 0#8, 0#8, 0#8, 0#8, 0#8, 0#8, 0#8, 0#8, 0#8, 0#8, 0#8, 0#8, 0#8, 0#8, 0#8]).length) c57]].flatten, 0⟩), (44, ⟨true, b44, 0, 55, encs EntE L, (c44 - (L).length) * 33⟩), (57, ⟨true, b57, 0, 96, encs EntE (miL (N : Int) L [(L0.getD i default).p, 0#8, 0#8, 0#8, 0#8, 0#8, 0#8, 0#8, 0#8, 0#8, 0#8, 0#8, 0#8, 0#8, 0#8, 0#8, 0#8, 0#8, 0#8, 0#8, 0#8, 0#8, 0#8, 0#8, 0#8, 0#8, 0#8, 0#8, 0#8, 0#8, 0#8, 0#8]), (c57 - (miL (N : Int) L [(L0.getD i default).p, 0#8, 0#8, 0#8, 0#8, 0#8, 0#8, 0#8, 0#8, 0#8, 0#8, 0#8, 0#8, 0#8, 0#8, 0#8, 0#8, 0#8, 0#8, 0#8, 0#8, 0#8, 0#8, 0#8, 0#8, 0#8, 0#8, 0#8, 0#8, 0#8, 0#8, 0#8]).length) * 33⟩), (71, ⟨true, b71, 0, 55, encs EntE L, (c71 - (L).length) * 33⟩), (86, ⟨true, b86, 0, 55, encs EntE [mkEnt (N : Int) [(L0.getD i default).p, 0#8, 0#8, 0#8, 0#8, 0#8, 0#8, 0#8, 0#8, 0#8, 0#8, 0#8, 0#8, 0#8, 0#8, 0#8, 0#8, 0#8, 0#8, 0#8, 0#8, 0#8, 0#8, 0#8, 0#8, 0#8, 0#8, 0#8, 0#8, 0#8, 0#8, 0#8]], 0⟩), (501, ⟨true, bx, 0, 96, encs EntE L, (cx - (L).length) * 33⟩), (601, ⟨true, bw, 0, 55, encs EntE WL, rw⟩)]) := by
         clear hG13_0 hG13_1 hG13_2 hG13_3 hG13_4 hG13_5 hG13_8 hG13_9 hG13_10
         refine hGo ?_
         refine At.bStep [0, 2] (by kernel_rfl) (by simp) ?_
         refine ⟨?_, ?_⟩
         ·
          refine At.bS false (by kernel_rfl) (S_buildSlice0 (some 76) 76 rfl Try.underlying42 sz55 (fun b76 => ?_))
          exact At.into (hGi (hG13_6 b76 b86)) rfl rfl
         ·
          refine At.bSQ (some 78) (Q_loadO (k := 6) rfl rfl Try.underlying42 rfl rfl (seg_get (i := 1) (p := 1) rfl LN rfl)) ?_
          exact At.into (hGi (hG13_7 b86)) rfl rfl
        have hG13_12 (b76 : Nat) (A79 : Option Addr) (b79 c79 : Nat) (g79a : 0 < c79 → A79 = some ⟨b79, 0, none⟩) (g79b : L.length ≤ c79) : G 7 #[true, true, true, true, true, true, true, false, false, false, false, false, false, false] (frOf [(1, .slice Ar nr c), (2, ptr b2 0), (5, ptr b5 0), (6, ptr b6 0), (7, .map (some b7)), (8, iV (i : Int)), (12, ptr b12 0), (34, iV (i : Int)), (35, .bool (decide ((i : Int) < 60))), (64, iV (miI (N : Int) L)), (65, ptr b6 32), (66, iV (N : Int)), (67, .bool ((miI (N : Int) L) != (N : Int))), (70, .agg ([(key).map u8V, [iV (N : Int), .slice Ax L.length cx]].flatten).toArray), (71, .agg ([(key).map u8V, [iV (N : Int), .slice A71 L.length c71]].flatten).toArray), (72, .agg ([(key).map u8V, [iV (N : Int), .slice A44 L.length c44]].flatten).toArray), (73, .bool (saB key (N : Int) L key (N : Int) L)), (74, .bool (!(saB key (N : Int) L key (N : Int) L))), (79, .slice A79 L.length c79), (81, iV (N : Int)), (82, ptr b9 2)]) (hOf [(0, ⟨false, b, q, 0, encs ActTN L0, 0⟩), (2, ⟨true, b2, 0, 23, (key).map u8V, 0⟩), (5, ⟨true, b5, 0, 40, [(key).map u8V, [iV (N : Int), .slice Ax L.length cx]].flatten, 0⟩), (6, ⟨true, b6, 0, 44, [(key).map u8V, [iV (N : Int), .slice Aw L.length cw]].flatten, 0⟩), (7, (mRow b7 U)), (9, ⟨true, b9, 0, 47, [iV ((L0.getD i default).w), iV ((L0.getD i default).i), u8V ((L0.getD i default).p)], 0⟩), (12, ⟨true, b12, 0, 40, [(miK key (N : Int) L).map u8V, [iV (miN (N : Int) L), .slice A57 ((miL (N : Int) L [(L0.getD i default).p, 0#8, 0#8, 0#8, 0#8, 0#8, 0#8, 0#8, 0#8, 0#8, 0#8, 0#8, 0#8, 0#8, 0#8, 0#8, 0#8, 0#8, 0#8, 0#8, 0#8, 0#8, 0#8, 0#8, 0#8, 0#8, 0#8, 0#8, 0#8, 0#8, 0#8, 0#8]).length) c57]].flatten, 0⟩), (44, ⟨true, b44, 0, 55, encs EntE L, (c44 - (L).length) * 33⟩), (57, ⟨true, b57, 0, 96, encs EntE (miL (N : Int) L [(L0.getD i default).p, 0#8, 0#8, 0#8, 0#8, 0#8, 0#8, 0#8, 0#8, 0#8, 0#8, 0#8, 0#8, 0#8, 0#8, 0#8, 0#8, 0#8, 0#8, 0#8, 0#8, 0#8, 0#8, 0#8, 0#8, 0#8, 0#8, 0#8, 0#8, 0#8, 0#8, 0#8]), (c57 - (miL (N : Int) L [(L0.getD i default).p, 0#8, 0#8, 0#8, 0#8, 0#8, 0#8, 0#8, 0#8, 0#8, 0#8, 0#8, 0#8, 0#8, 0#8, 0#8, 0#8, 0#8, 0#8, 0#8, 0#8, 0#8, 0#8, 0#8, 0#8, 0#8, 0#8, 0#8, 0#8, 0#8, 0#8, 0#8]).length) * 33⟩), (71, ⟨true, b71, 0, 55, encs EntE L, (c71 - (L).length) * 33⟩), (76, ⟨true, b79, 0, 55, encs EntE L, (c79 - (L).length) * 33⟩), (501, ⟨true, bx, 0, 96, encs EntE L, (cx - (L).length) * 33⟩), (601, ⟨true, bw, 0, 55, encs EntE WL, rw⟩)]) := by
         clear hG13_0 hG13_1 hG13_2 hG13_4 hG13_5 hG13_6 hG13_7 hG13_8 hG13_9 hG13_10 hG13_11
         refine hGo ?_
         refine At.bStep [7] (by kernel_rfl) (by simp) ?_
         refine At.bSQ (some 83) (Q_loadO (k := 9) rfl rfl Try.underlying5 rfl rfl rfl) ?_
         refine At.bP  8 (some 84) (P_build_arr (cs := (([(L0.getD i default).p, 0#8, 0#8, 0#8, 0#8, 0#8, 0#8, 0#8, 0#8, 0#8, 0#8, 0#8, 0#8, 0#8, 0#8, 0#8, 0#8, 0#8, 0#8, 0#8, 0#8, 0#8, 0#8, 0#8, 0#8, 0#8, 0#8, 0#8, 0#8, 0#8, 0#8, 0#8]).map u8V).toArray) (parts := _) (vs := [(0, _)]) rfl Try.underlying23 sz5 ze23 rfl rfl) (by kernel_rfl) (by kernel_rfl) ?_
         refine At.bP  9 (some 85) (P_build_struct (cs := ([[iV (N : Int)], ([(L0.getD i default).p, 0#8, 0#8, 0#8, 0#8, 0#8, 0#8, 0#8, 0#8, 0#8, 0#8, 0#8, 0#8, 0#8, 0#8, 0#8, 0#8, 0#8, 0#8, 0#8, 0#8, 0#8, 0#8, 0#8, 0#8, 0#8, 0#8, 0#8, 0#8, 0#8, 0#8, 0#8]).map u8V].flatten).toArray) (parts := _) (vs := [(0, _), (1, _)]) rfl Try.underlying55 ze55 pl55 rfl (by show Instr.fill _ ([[iV 0], (List.replicate 32 0#8).map u8V].flatten).toArray _ = _; refine fill_seg (k := 0) (vs := [iV (N : Int)]) rfl rfl LN rfl LN LN ?_; refine fill_seg (k := 1) (vs := ([(L0.getD i default).p, 0#8, 0#8, 0#8, 0#8, 0#8, 0#8, 0#8, 0#8, 0#8, 0#8, 0#8, 0#8, 0#8, 0#8, 0#8, 0#8, 0#8, 0#8, 0#8, 0#8, 0#8, 0#8, 0#8, 0#8, 0#8, 0#8, 0#8, 0#8, 0#8, 0#8, 0#8]).map u8V) rfl rfl LN rfl LN LN ?_; exact fill_end (by simp))) (by kernel_rfl) (by kernel_rfl) ?_
         exact At.into (hGi (hG13_3 b76 A79 b79 c79 g79a g79b)) rfl rfl
        have hG13_13 (b76 : Nat) : G 7 #[true, true, true, false, true, false, true, true, true, false, false, false, false, false] (frOf [(1, .slice Ar nr c), (2, ptr b2 0), (5, ptr b5 0), (6, ptr b6 0), (7, .map (some b7)), (8, iV (i : Int)), (12, ptr b12 0), (34, iV (i : Int)), (35, .bool (decide ((i : Int) < 60))), (64, iV (miI (N : Int) L)), (65, ptr b6 32), (66, iV (N : Int)), (67, .bool ((miI (N : Int) L) != (N : Int))), (70, .agg ([(key).map u8V, [iV (N : Int), .slice Ax L.length cx]].flatten).toArray), (71, .agg ([(key).map u8V, [iV (N : Int), .slice A71 L.length c71]].flatten).toArray), (72, .agg ([(key).map u8V, [iV (N : Int), .slice A44 L.length c44]].flatten).toArray), (73, .bool (saB key (N : Int) L key (N : Int) L)), (74, .bool (!(saB key (N : Int) L key (N : Int) L))), (76, .slice (some ⟨b76, 0, none⟩) 0 0), (78, .slice Aw L.length cw), (80, ptr b6 32), (84, aggK [(L0.getD i default).p, 0#8, 0#8, 0#8, 0#8, 0#8, 0#8, 0#8, 0#8, 0#8, 0#8, 0#8, 0#8, 0#8, 0#8, 0#8, 0#8, 0#8, 0#8, 0#8, 0#8, 0#8, 0#8, 0#8, 0#8, 0#8, 0#8, 0#8, 0#8, 0#8, 0#8, 0#8])]) (hOf [(0, ⟨false, b, q, 0, encs ActTN L0, 0⟩), (2, ⟨true, b2, 0, 23, (key).map u8V, 0⟩), (5, ⟨true, b5, 0, 40, [(key).map u8V, [iV (N : Int), .slice Ax L.length cx]].flatten, 0⟩), (6, ⟨true, b6, 0, 44, [(key).map u8V, [iV (N : Int), .slice Aw L.length cw]].flatten, 0⟩), (7, (mRow b7 U)), (12, ⟨true, b12, 0, 40, [(miK key (N : Int) L).map u8V, [iV (miN (N : Int) L), .slice A57 ((miL (N : Int) L [(L0.getD i default).p, 0#8, 0#8, 0#8, 0#8, 0#8, 0#8, 0#8, 0#8, 0#8, 0#8, 0#8, 0#8, 0#8, 0#8, 0#8, 0#8, 0#8, 0#8, 0#8, 0#8, 0#8, 0#8, 0#8, 0#8, 0#8, 0#8, 0#8, 0#8, 0#8, 0#8, 0#8]).length) c57]].flatten, 0⟩), (44, ⟨true, b44, 0, 55, encs EntE L, (c44 - (L).length) * 33⟩), (57, ⟨true, b57, 0, 96, encs EntE (miL (N : Int) L [(L0.getD i default).p, 0#8, 0#8, 0#8, 0#8, 0#8, 0#8, 0#8, 0#8, 0#8, 0#8, 0#8, 0#8, 0#8, 0#8, 0#8, 0#8, 0#8, 0#8, 0#8, 0#8, 0#8, 0#8, 0#8, 0#8, 0#8, 0#8, 0#8, 0#8, 0#8, 0#8, 0#8]), (c57 - (miL (N : Int) L [(L0.getD i default).p, 0#8, 0#8, 0#8, 0#8, 0#8, 0#8, 0#8, 0#8, 0#8, 0#8, 0#8, 0#8, 0#8, 0#8, 0#8, 0#8, 0#8, 0#8, 0#8, 0#8, 0#8, 0#8, 0#8, 0#8, 0#8, 0#8, 0#8, 0#8, 0#8, 0#8, 0#8]).length) * 33⟩), (71, ⟨true, b71, 0, 55, encs EntE L, (c71 - (L).length) * 33⟩), (76, ⟨true, b76, 0, 55, [], 0⟩), (501, ⟨true, bx, 0, 96, encs EntE L, (cx - (L).length) * 33⟩), (601, ⟨true, bw, 0, 55, encs EntE WL, rw⟩)]) := by
         clear hG13_0 hG13_1 hG13_2 hG13_3 hG13_4 hG13_6 hG13_7 hG13_9 hG13_10 hG13_11 hG13_12
         refine hGo ?_
         refine At.bStep [3, 5] (by kernel_rfl) (by simp) ?_
         refine ⟨?_, ?_⟩
         ·
          refine At.bS true (by kernel_rfl) (S_appendE (en := EntE) (some 79) 76 (L) (l := []) (L := L) (m := L.length) (sz := 33) rfl rfl Try.underlying42 Try.underlying42 (.inr ⟨_, rfl⟩) sz55 by55 ze55 rfl rfl (fun h => ⟨rfl, rfl⟩) LN OG OG (srcD hWL (SrcE.tail (en := EntE) (k := 601) (j := o) (L := WL) rfl rfl hAw (fun _ => ⟨rfl, rfl, OG⟩) OG)) OG OG (by rfl) LN ?_)
          intro A79 b79 c79 g79a g79b
          exact At.into (hGi (hG13_8 b76 A79 b79 c79 g79a g79b)) rfl rfl
         ·
          refine At.bSQ (some 81) (Q_loadO (k := 6) rfl rfl Try.underlying3 rfl rfl (seg_get (i := 1) (p := 0) rfl LN rfl)) ?_
          refine At.bP  9 (some 85) (P_build_struct (cs := ([[iV (N : Int)], ([(L0.getD i default).p, 0#8, 0#8, 0#8, 0#8, 0#8, 0#8, 0#8, 0#8, 0#8, 0#8, 0#8, 0#8, 0#8, 0#8, 0#8, 0#8, 0#8, 0#8, 0#8, 0#8, 0#8, 0#8, 0#8, 0#8, 0#8, 0#8, 0#8, 0#8, 0#8, 0#8, 0#8]).map u8V].flatten).toArray) (parts := _) (vs := [(0, _), (1, _)]) rfl Try.underlying55 ze55 pl55 rfl (by show Instr.fill _ ([[iV 0], (List.replicate 32 0#8).map u8V].flatten).toArray _ = _; refine fill_seg (k := 0) (vs := [iV (N : Int)]) rfl rfl LN rfl LN LN ?_; refine fill_seg (k := 1) (vs := ([(L0.getD i default).p, 0#8, 0#8, 0#8, 0#8, 0#8, 0#8, 0#8, 0#8, 0#8, 0#8, 0#8, 0#8, 0#8, 0#8, 0#8, 0#8, 0#8, 0#8, 0#8, 0#8, 0#8, 0#8, 0#8, 0#8, 0#8, 0#8, 0#8, 0#8, 0#8, 0#8, 0#8]).map u8V) rfl rfl LN rfl LN LN ?_; exact fill_end (by simp))) (by kernel_rfl) (by kernel_rfl) ?_
          exact At.into (hGi (hG13_5 b76)) rfl rfl
        have hG13_14  : G 7 #[false, true, false, false, true, true, true, true, true, true, false, false, false, false] (frOf [(1, .slice Ar nr c), (2, ptr b2 0), (5, ptr b5 0), (6, ptr b6 0), (7, .map (some b7)), (8, iV (i : Int)), (12, ptr b12 0), (34, iV (i : Int)), (35, .bool (decide ((i : Int) < 60))), (64, iV (miI (N : Int) L)), (65, ptr b6 32), (66, iV (N : Int)), (67, .bool ((miI (N : Int) L) != (N : Int))), (70, .agg ([(key).map u8V, [iV (N : Int), .slice Ax L.length cx]].flatten).toArray), (71, .agg ([(key).map u8V, [iV (N : Int), .slice A71 L.length c71]].flatten).toArray), (72, .agg ([(key).map u8V, [iV (N : Int), .slice A44 L.length c44]].flatten).toArray), (73, .bool (saB key (N : Int) L key (N : Int) L)), (74, .bool (!(saB key (N : Int) L key (N : Int) L))), (77, ptr b6 33), (85, .agg ([[iV (N : Int)], ([(L0.getD i default).p, 0#8, 0#8, 0#8, 0#8, 0#8, 0#8, 0#8, 0#8, 0#8, 0#8, 0#8, 0#8, 0#8, 0#8, 0#8, 0#8, 0#8, 0#8, 0#8, 0#8, 0#8, 0#8, 0#8, 0#8, 0#8, 0#8, 0#8, 0#8, 0#8, 0#8, 0#8]).map u8V].flatten).toArray)]) (hOf [(0, ⟨false, b, q, 0, encs ActTN L0, 0⟩), (2, ⟨true, b2, 0, 23, (key).map u8V, 0⟩), (5, ⟨true, b5, 0, 40, [(key).map u8V, [iV (N : Int), .slice Ax L.length cx]].flatten, 0⟩), (6, ⟨true, b6, 0, 44, [(key).map u8V, [iV (N : Int), .slice Aw L.length cw]].flatten, 0⟩), (7, (mRow b7 U)), (12, ⟨true, b12, 0, 40, [(miK key (N : Int) L).map u8V, [iV (miN (N : Int) L), .slice A57 ((miL (N : Int) L [(L0.getD i default).p, 0#8, 0#8, 0#8, 0#8, 0#8, 0#8, 0#8, 0#8, 0#8, 0#8, 0#8, 0#8, 0#8, 0#8, 0#8, 0#8, 0#8, 0#8, 0#8, 0#8, 0#8, 0#8, 0#8, 0#8, 0#8, 0#8, 0#8, 0#8, 0#8, 0#8, 0#8]).length) c57]].flatten, 0⟩), (44, ⟨true, b44, 0, 55, encs EntE L, (c44 - (L).length) * 33⟩), (57, ⟨true, b57, 0, 96, encs EntE (miL (N : Int) L [(L0.getD i default).p, 0#8, 0#8, 0#8, 0#8, 0#8, 0#8, 0#8, 0#8, 0#8, 0#8, 0#8, 0#8, 0#8, 0#8, 0#8, 0#8, 0#8, 0#8, 0#8, 0#8, 0#8, 0#8, 0#8, 0#8, 0#8, 0#8, 0#8, 0#8, 0#8, 0#8, 0#8]), (c57 - (miL (N : Int) L [(L0.getD i default).p, 0#8, 0#8, 0#8, 0#8, 0#8, 0#8, 0#8, 0#8, 0#8, 0#8, 0#8, 0#8, 0#8, 0#8, 0#8, 0#8, 0#8, 0#8, 0#8, 0#8, 0#8, 0#8, 0#8, 0#8, 0#8, 0#8, 0#8, 0#8, 0#8, 0#8, 0#8]).length) * 33⟩), (71, ⟨true, b71, 0, 55, encs EntE L, (c71 - (L).length) * 33⟩), (501, ⟨true, bx, 0, 96, encs EntE L, (cx - (L).length) * 33⟩), (601, ⟨true, bw, 0, 55, encs EntE WL, rw⟩)]) := by
         clear hG13_0 hG13_1 hG13_2 hG13_3 hG13_4 hG13_5 hG13_6 hG13_7 hG13_8 hG13_12 hG13_13
         refine hGo ?_
         refine At.bStep [0, 2, 10] (by kernel_rfl) (by simp) ?_
         refine ⟨?_, ?_, ?_⟩
         ·
          refine At.bS false (by kernel_rfl) (S_buildSlice0 (some 76) 76 rfl Try.underlying42 sz55 (fun b76 => ?_))
          exact At.into (hGi (hG13_9 b76)) rfl rfl
         ·
          refine At.bSQ (some 78) (Q_loadO (k := 6) rfl rfl Try.underlying42 rfl rfl (seg_get (i := 1) (p := 1) rfl LN rfl)) ?_
          exact At.into (hGi (hG13_10 )) rfl rfl
         ·
          refine At.bS false (by kernel_rfl) (S_buildSliceE (some 86) 86 (cs := [[iV (N : Int)], ([(L0.getD i default).p, 0#8, 0#8, 0#8, 0#8, 0#8, 0#8, 0#8, 0#8, 0#8, 0#8, 0#8, 0#8, 0#8, 0#8, 0#8, 0#8, 0#8, 0#8, 0#8, 0#8, 0#8, 0#8, 0#8, 0#8, 0#8, 0#8, 0#8, 0#8, 0#8, 0#8, 0#8]).map u8V].flatten) rfl Try.underlying42 sz55 ze55 rfl rfl LN (by decide) (by decide) (fun b86 => ?_))
          refine At.row 86 (⟨true, b86, 0, 55, encs EntE [mkEnt (N : Int) [(L0.getD i default).p, 0#8, 0#8, 0#8, 0#8, 0#8, 0#8, 0#8, 0#8, 0#8, 0#8, 0#8, 0#8, 0#8, 0#8, 0#8, 0#8, 0#8, 0#8, 0#8, 0#8, 0#8, 0#8, 0#8, 0#8, 0#8, 0#8, 0#8, 0#8, 0#8, 0#8, 0#8]], 0⟩) rfl (ent_row LN) ?_
          exact At.into (hGi (hG13_11 b86)) rfl rfl
        have hG13_15 (b76 : Nat) (A79 : Option Addr) (b79 c79 : Nat) (g79a : 0 < c79 → A79 = some ⟨b79, 0, none⟩) (g79b : L.length ≤ c79) : G 8 #[true, true, true, true, true, false, true, false, false, false, false, false, false, false] (frOf [(1, .slice Ar nr c), (2, ptr b2 0), (5, ptr b5 0), (6, ptr b6 0), (7, .map (some b7)), (8, iV (i : Int)), (12, ptr b12 0), (34, iV (i : Int)), (35, .bool (decide ((i : Int) < 60))), (64, iV (miI (N : Int) L)), (65, ptr b6 32), (66, iV (N : Int)), (67, .bool ((miI (N : Int) L) != (N : Int))), (70, .agg ([(key).map u8V, [iV (N : Int), .slice Ax L.length cx]].flatten).toArray), (71, .agg ([(key).map u8V, [iV (N : Int), .slice A71 L.length c71]].flatten).toArray), (72, .agg ([(key).map u8V, [iV (N : Int), .slice A44 L.length c44]].flatten).toArray), (73, .bool (saB key (N : Int) L key (N : Int) L)), (74, .bool (!(saB key (N : Int) L key (N : Int) L))), (79, .slice A79 L.length c79), (80, ptr b6 32), (82, ptr b9 2)]) (hOf [(0, ⟨false, b, q, 0, encs ActTN L0, 0⟩), (2, ⟨true, b2, 0, 23, (key).map u8V, 0⟩), (5, ⟨true, b5, 0, 40, [(key).map u8V, [iV (N : Int), .slice Ax L.length cx]].flatten, 0⟩), (6, ⟨true, b6, 0, 44, [(key).map u8V, [iV (N : Int), .slice Aw L.length cw]].flatten, 0⟩), (7, (mRow b7 U)), (9, ⟨true, b9, 0, 47, [iV ((L0.getD i default).w), iV ((L0.getD i default).i), u8V ((L0.getD i default).p)], 0⟩), (12, ⟨true, b12, 0, 40, [(miK key (N : Int) L).map u8V, [iV (miN (N : Int) L), .slice A57 ((miL (N : Int) L [(L0.getD i default).p, 0#8, 0#8, 0#8, 0#8, 0#8, 0#8, 0#8, 0#8, 0#8, 0#8, 0#8, 0#8, 0#8, 0#8, 0#8, 0#8, 0#8, 0#8, 0#8, 0#8, 0#8, 0#8, 0#8, 0#8, 0#8, 0#8, 0#8, 0#8, 0#8, 0#8, 0#8]).length) c57]].flatten, 0⟩), (44, ⟨true, b44, 0, 55, encs EntE L, (c44 - (L).length) * 33⟩), (57, ⟨true, b57, 0, 96, encs EntE (miL (N : Int) L [(L0.getD i default).p, 0#8, 0#8, 0#8, 0#8, 0#8, 0#8, 0#8, 0#8, 0#8, 0#8, 0#8, 0#8, 0#8, 0#8, 0#8, 0#8, 0#8, 0#8, 0#8, 0#8, 0#8, 0#8, 0#8, 0#8, 0#8, 0#8, 0#8, 0#8, 0#8, 0#8, 0#8]), (c57 - (miL (N : Int) L [(L0.getD i default).p, 0#8, 0#8, 0#8, 0#8, 0#8, 0#8, 0#8, 0#8, 0#8, 0#8, 0#8, 0#8, 0#8, 0#8, 0#8, 0#8, 0#8, 0#8, 0#8, 0#8, 0#8, 0#8, 0#8, 0#8, 0#8, 0#8, 0#8, 0#8, 0#8, 0#8, 0#8]).length) * 33⟩), (71, ⟨true, b71, 0, 55, encs EntE L, (c71 - (L).length) * 33⟩), (76, ⟨true, b79, 0, 55, encs EntE L, (c79 - (L).length) * 33⟩), (501, ⟨true, bx, 0, 96, encs EntE L, (cx - (L).length) * 33⟩), (601, ⟨true, bw, 0, 55, encs EntE WL, rw⟩)]) := by
         clear hG13_0 hG13_1 hG13_2 hG13_3 hG13_4 hG13_5 hG13_6 hG13_7 hG13_9 hG13_10 hG13_11 hG13_13 hG13_14
         refine hGo ?_
         refine At.bStep [5, 7] (by kernel_rfl) (by simp) ?_
         refine ⟨?_, ?_⟩
         ·
          refine At.bSQ (some 81) (Q_loadO (k := 6) rfl rfl Try.underlying3 rfl rfl (seg_get (i := 1) (p := 0) rfl LN rfl)) ?_
          exact At.into (hGi (hG13_12 b76 A79 b79 c79 g79a g79b)) rfl rfl
         ·
          refine At.bSQ (some 83) (Q_loadO (k := 9) rfl rfl Try.underlying5 rfl rfl rfl) ?_
          refine At.bP  8 (some 84) (P_build_arr (cs := (([(L0.getD i default).p, 0#8, 0#8, 0#8, 0#8, 0#8, 0#8, 0#8, 0#8, 0#8, 0#8, 0#8, 0#8, 0#8, 0#8, 0#8, 0#8, 0#8, 0#8, 0#8, 0#8, 0#8, 0#8, 0#8, 0#8, 0#8, 0#8, 0#8, 0#8, 0#8, 0#8, 0#8]).map u8V).toArray) (parts := _) (vs := [(0, _)]) rfl Try.underlying23 sz5 ze23 rfl rfl) (by kernel_rfl) (by kernel_rfl) ?_
          exact At.into (hGi (hG13_8 b76 A79 b79 c79 g79a g79b)) rfl rfl
        have hG13_16 (b76 : Nat) : G 8 #[true, true, true, false, true, true, true, false, false, false, false, false, false, false] (frOf [(1, .slice Ar nr c), (2, ptr b2 0), (5, ptr b5 0), (6, ptr b6 0), (7, .map (some b7)), (8, iV (i : Int)), (12, ptr b12 0), (34, iV (i : Int)), (35, .bool (decide ((i : Int) < 60))), (64, iV (miI (N : Int) L)), (65, ptr b6 32), (66, iV (N : Int)), (67, .bool ((miI (N : Int) L) != (N : Int))), (70, .agg ([(key).map u8V, [iV (N : Int), .slice Ax L.length cx]].flatten).toArray), (71, .agg ([(key).map u8V, [iV (N : Int), .slice A71 L.length c71]].flatten).toArray), (72, .agg ([(key).map u8V, [iV (N : Int), .slice A44 L.length c44]].flatten).toArray), (73, .bool (saB key (N : Int) L key (N : Int) L)), (74, .bool (!(saB key (N : Int) L key (N : Int) L))), (76, .slice (some ⟨b76, 0, none⟩) 0 0), (78, .slice Aw L.length cw), (81, iV (N : Int)), (82, ptr b9 2)]) (hOf [(0, ⟨false, b, q, 0, encs ActTN L0, 0⟩), (2, ⟨true, b2, 0, 23, (key).map u8V, 0⟩), (5, ⟨true, b5, 0, 40, [(key).map u8V, [iV (N : Int), .slice Ax L.length cx]].flatten, 0⟩), (6, ⟨true, b6, 0, 44, [(key).map u8V, [iV (N : Int), .slice Aw L.length cw]].flatten, 0⟩), (7, (mRow b7 U)), (9, ⟨true, b9, 0, 47, [iV ((L0.getD i default).w), iV ((L0.getD i default).i), u8V ((L0.getD i default).p)], 0⟩), (12, ⟨true, b12, 0, 40, [(miK key (N : Int) L).map u8V, [iV (miN (N : Int) L), .slice A57 ((miL (N : Int) L [(L0.getD i default).p, 0#8, 0#8, 0#8, 0#8, 0#8, 0#8, 0#8, 0#8, 0#8, 0#8, 0#8, 0#8, 0#8, 0#8, 0#8, 0#8, 0#8, 0#8, 0#8, 0#8, 0#8, 0#8, 0#8, 0#8, 0#8, 0#8, 0#8, 0#8, 0#8, 0#8, 0#8]).length) c57]].flatten, 0⟩), (44, ⟨true, b44, 0, 55, encs EntE L, (c44 - (L).length) * 33⟩), (57, ⟨true, b57, 0, 96, encs EntE (miL (N : Int) L [(L0.getD i default).p, 0#8, 0#8, 0#8, 0#8, 0#8, 0#8, 0#8, 0#8, 0#8, 0#8, 0#8, 0#8, 0#8, 0#8, 0#8, 0#8, 0#8, 0#8, 0#8, 0#8, 0#8, 0#8, 0#8, 0#8, 0#8, 0#8, 0#8, 0#8, 0#8, 0#8, 0#8]), (c57 - (miL (N : Int) L [(L0.getD i default).p, 0#8, 0#8, 0#8, 0#8, 0#8, 0#8, 0#8, 0#8, 0#8, 0#8, 0#8, 0#8, 0#8, 0#8, 0#8, 0#8, 0#8, 0#8, 0#8, 0#8, 0#8, 0#8, 0#8, 0#8, 0#8, 0#8, 0#8, 0#8, 0#8, 0#8, 0#8]).length) * 33⟩), (71, ⟨true, b71, 0, 55, encs EntE L, (c71 - (L).length) * 33⟩), (76, ⟨true, b76, 0, 55, [], 0⟩), (501, ⟨true, bx, 0, 96, encs EntE L, (cx - (L).length) * 33⟩), (601, ⟨true, bw, 0, 55, encs EntE WL, rw⟩)]) := by
         clear hG13_0 hG13_1 hG13_2 hG13_3 hG13_4 hG13_6 hG13_7 hG13_8 hG13_9 hG13_10 hG13_11 hG13_13 hG13_14 hG13_15
         refine hGo ?_
         refine At.bStep [3, 7] (by kernel_rfl) (by simp) ?_
         refine ⟨?_, ?_⟩
         ·
          refine At.bS true (by kernel_rfl) (S_appendE (en := EntE) (some 79) 76 (L) (l := []) (L := L) (m := L.length) (sz := 33) rfl rfl Try.underlying42 Try.underlying42 (.inr ⟨_, rfl⟩) sz55 by55 ze55 rfl rfl (fun h => ⟨rfl, rfl⟩) LN OG OG (srcD hWL (SrcE.tail (en := EntE) (k := 601) (j := o) (L := WL) rfl rfl hAw (fun _ => ⟨rfl, rfl, OG⟩) OG)) OG OG (by rfl) LN ?_)
          intro A79 b79 c79 g79a g79b
          exact At.into (hGi (hG13_12 b76 A79 b79 c79 g79a g79b)) rfl rfl
         ·
          refine At.bSQ (some 83) (Q_loadO (k := 9) rfl rfl Try.underlying5 rfl rfl rfl) ?_
          refine At.bP  8 (some 84) (P_build_arr (cs := (([(L0.getD i default).p, 0#8, 0#8, 0#8, 0#8, 0#8, 0#8, 0#8, 0#8, 0#8, 0#8, 0#8, 0#8, 0#8, 0#8, 0#8, 0#8, 0#8, 0#8, 0#8, 0#8, 0#8, 0#8, 0#8, 0#8, 0#8, 0#8, 0#8, 0#8, 0#8, 0#8, 0#8]).map u8V).toArray) (parts := _) (vs := [(0, _)]) rfl Try.underlying23 sz5 ze23 rfl rfl) (by kernel_rfl) (by kernel_rfl) ?_
          refine At.bP  9 (some 85) (P_build_struct (cs := ([[iV (N : Int)], ([(L0.getD i default).p, 0#8, 0#8, 0#8, 0#8, 0#8, 0#8, 0#8, 0#8, 0#8, 0#8, 0#8, 0#8, 0#8, 0#8, 0#8, 0#8, 0#8, 0#8, 0#8, 0#8, 0#8, 0#8, 0#8, 0#8, 0#8, 0#8, 0#8, 0#8, 0#8, 0#8, 0#8]).map u8V].flatten).toArray) (parts := _) (vs := [(0, _), (1, _)]) rfl Try.underlying55 ze55 pl55 rfl (by show Instr.fill _ ([[iV 0], (List.replicate 32 0#8).map u8V].flatten).toArray _ = _; refine fill_seg (k := 0) (vs := [iV (N : Int)]) rfl rfl LN rfl LN LN ?_; refine fill_seg (k := 1) (vs := ([(L0.getD i default).p, 0#8, 0#8, 0#8, 0#8, 0#8, 0#8, 0#8, 0#8, 0#8, 0#8, 0#8, 0#8, 0#8, 0#8, 0#8, 0#8, 0#8, 0#8, 0#8, 0#8, 0#8, 0#8, 0#8, 0#8, 0#8, 0#8, 0#8, 0#8, 0#8, 0#8, 0#8]).map u8V) rfl rfl LN rfl LN LN ?_; exact fill_end (by simp))) (by kernel_rfl) (by kernel_rfl) ?_
          exact At.into (hGi (hG13_5 b76)) rfl rfl
        have hG13_17 (b76 : Nat) : G 8 #[true, true, false, false, true, false, true, true, true, false, false, false, false, false] (frOf [(1, .slice Ar nr c), (2, ptr b2 0), (5, ptr b5 0), (6, ptr b6 0), (7, .map (some b7)), (8, iV (i : Int)), (12, ptr b12 0), (34, iV (i : Int)), (35, .bool (decide ((i : Int) < 60))), (64, iV (miI (N : Int) L)), (65, ptr b6 32), (66, iV (N : Int)), (67, .bool ((miI (N : Int) L) != (N : Int))), (70, .agg ([(key).map u8V, [iV (N : Int), .slice Ax L.length cx]].flatten).toArray), (71, .agg ([(key).map u8V, [iV (N : Int), .slice A71 L.length c71]].flatten).toArray), (72, .agg ([(key).map u8V, [iV (N : Int), .slice A44 L.length c44]].flatten).toArray), (73, .bool (saB key (N : Int) L key (N : Int) L)), (74, .bool (!(saB key (N : Int) L key (N : Int) L))), (76, .slice (some ⟨b76, 0, none⟩) 0 0), (77, ptr b6 33), (80, ptr b6 32), (84, aggK [(L0.getD i default).p, 0#8, 0#8, 0#8, 0#8, 0#8, 0#8, 0#8, 0#8, 0#8, 0#8, 0#8, 0#8, 0#8, 0#8, 0#8, 0#8, 0#8, 0#8, 0#8, 0#8, 0#8, 0#8, 0#8, 0#8, 0#8, 0#8, 0#8, 0#8, 0#8, 0#8, 0#8])]) (hOf [(0, ⟨false, b, q, 0, encs ActTN L0, 0⟩), (2, ⟨true, b2, 0, 23, (key).map u8V, 0⟩), (5, ⟨true, b5, 0, 40, [(key).map u8V, [iV (N : Int), .slice Ax L.length cx]].flatten, 0⟩), (6, ⟨true, b6, 0, 44, [(key).map u8V, [iV (N : Int), .slice Aw L.length cw]].flatten, 0⟩), (7, (mRow b7 U)), (12, ⟨true, b12, 0, 40, [(miK key (N : Int) L).map u8V, [iV (miN (N : Int) L), .slice A57 ((miL (N : Int) L [(L0.getD i default).p, 0#8, 0#8, 0#8, 0#8, 0#8, 0#8, 0#8, 0#8, 0#8, 0#8, 0#8, 0#8, 0#8, 0#8, 0#8, 0#8, 0#8, 0#8, 0#8, 0#8, 0#8, 0#8, 0#8, 0#8, 0#8, 0#8, 0#8, 0#8, 0#8, 0#8, 0#8]).length) c57]].flatten, 0⟩), (44, ⟨true, b44, 0, 55, encs EntE L, (c44 - (L).length) * 33⟩), (57, ⟨true, b57, 0, 96, encs EntE (miL (N : Int) L [(L0.getD i default).p, 0#8, 0#8, 0#8, 0#8, 0#8, 0#8, 0#8, 0#8, 0#8, 0#8, 0#8, 0#8, 0#8, 0#8, 0#8, 0#8, 0#8, 0#8, 0#8, 0#8, 0#8, 0#8, 0#8, 0#8, 0#8, 0#8, 0#8, 0#8, 0#8, 0#8, 0#8]), (c57 - (miL (N : Int) L [(L0.getD i default).p, 0#8, 0#8, 0#8, 0#8, 0#8, 0#8, 0#8, 0#8, 0#8, 0#8, 0#8, 0#8, 0#8, 0#8, 0#8, 0#8, 0#8, 0#8, 0#8, 0#8, 0#8, 0#8, 0#8, 0#8, 0#8, 0#8, 0#8, 0#8, 0#8, 0#8, 0#8]).length) * 33⟩), (71, ⟨true, b71, 0, 55, encs EntE L, (c71 - (L).length) * 33⟩), (76, ⟨true, b76, 0, 55, [], 0⟩), (501, ⟨true, bx, 0, 96, encs EntE L, (cx - (L).length) * 33⟩), (601, ⟨true, bw, 0, 55, encs EntE WL, rw⟩)]) := by
         clear hG13_0 hG13_1 hG13_2 hG13_3 hG13_4 hG13_5 hG13_6 hG13_7 hG13_8 hG13_10 hG13_11 hG13_12 hG13_14 hG13_15 hG13_16
         refine hGo ?_
         refine At.bStep [2, 5] (by kernel_rfl) (by simp) ?_
         refine ⟨?_, ?_⟩
         ·
          refine At.bSQ (some 78) (Q_loadO (k := 6) rfl rfl Try.underlying42 rfl rfl (seg_get (i := 1) (p := 1) rfl LN rfl)) ?_
          exact At.into (hGi (hG13_13 b76)) rfl rfl
         ·
          refine At.bSQ (some 81) (Q_loadO (k := 6) rfl rfl Try.underlying3 rfl rfl (seg_get (i := 1) (p := 0) rfl LN rfl)) ?_
          refine At.bP  9 (some 85) (P_build_struct (cs := ([[iV (N : Int)], ([(L0.getD i default).p, 0#8, 0#8, 0#8, 0#8, 0#8, 0#8, 0#8, 0#8, 0#8, 0#8, 0#8, 0#8, 0#8, 0#8, 0#8, 0#8, 0#8, 0#8, 0#8, 0#8, 0#8, 0#8, 0#8, 0#8, 0#8, 0#8, 0#8, 0#8, 0#8, 0#8, 0#8]).map u8V].flatten).toArray) (parts := _) (vs := [(0, _), (1, _)]) rfl Try.underlying55 ze55 pl55 rfl (by show Instr.fill _ ([[iV 0], (List.replicate 32 0#8).map u8V].flatten).toArray _ = _; refine fill_seg (k := 0) (vs := [iV (N : Int)]) rfl rfl LN rfl LN LN ?_; refine fill_seg (k := 1) (vs := ([(L0.getD i default).p, 0#8, 0#8, 0#8, 0#8, 0#8, 0#8, 0#8, 0#8, 0#8, 0#8, 0#8, 0#8, 0#8, 0#8, 0#8, 0#8, 0#8, 0#8, 0#8, 0#8, 0#8, 0#8, 0#8, 0#8, 0#8, 0#8, 0#8, 0#8, 0#8, 0#8, 0#8]).map u8V) rfl rfl LN rfl LN LN ?_; exact fill_end (by simp))) (by kernel_rfl) (by kernel_rfl) ?_
          exact At.into (hGi (hG13_9 b76)) rfl rfl
        have hG13_18  : G 8 #[false, true, true, false, true, false, true, true, true, false, false, false, false, false] (frOf [(1, .slice Ar nr c), (2, ptr b2 0), (5, ptr b5 0), (6, ptr b6 0), (7, .map (some b7)), (8, iV (i : Int)), (12, ptr b12 0), (34, iV (i : Int)), (35, .bool (decide ((i : Int) < 60))), (64, iV (miI (N : Int) L)), (65, ptr b6 32), (66, iV (N : Int)), (67, .bool ((miI (N : Int) L) != (N : Int))), (70, .agg ([(key).map u8V, [iV (N : Int), .slice Ax L.length cx]].flatten).toArray), (71, .agg ([(key).map u8V, [iV (N : Int), .slice A71 L.length c71]].flatten).toArray), (72, .agg ([(key).map u8V, [iV (N : Int), .slice A44 L.length c44]].flatten).toArray), (73, .bool (saB key (N : Int) L key (N : Int) L)), (74, .bool (!(saB key (N : Int) L key (N : Int) L))), (78, .slice Aw L.length cw), (80, ptr b6 32), (84, aggK [(L0.getD i default).p, 0#8, 0#8, 0#8, 0#8, 0#8, 0#8, 0#8, 0#8, 0#8, 0#8, 0#8, 0#8, 0#8, 0#8, 0#8, 0#8, 0#8, 0#8, 0#8, 0#8, 0#8, 0#8, 0#8, 0#8, 0#8, 0#8, 0#8, 0#8, 0#8, 0#8, 0#8])]) (hOf [(0, ⟨false, b, q, 0, encs ActTN L0, 0⟩), (2, ⟨true, b2, 0, 23, (key).map u8V, 0⟩), (5, ⟨true, b5, 0, 40, [(key).map u8V, [iV (N : Int), .slice Ax L.length cx]].flatten, 0⟩), (6, ⟨true, b6, 0, 44, [(key).map u8V, [iV (N : Int), .slice Aw L.length cw]].flatten, 0⟩), (7, (mRow b7 U)), (12, ⟨true, b12, 0, 40, [(miK key (N : Int) L).map u8V, [iV (miN (N : Int) L), .slice A57 ((miL (N : Int) L [(L0.getD i default).p, 0#8, 0#8, 0#8, 0#8, 0#8, 0#8, 0#8, 0#8, 0#8, 0#8, 0#8, 0#8, 0#8, 0#8, 0#8, 0#8, 0#8, 0#8, 0#8, 0#8, 0#8, 0#8, 0#8, 0#8, 0#8, 0#8, 0#8, 0#8, 0#8, 0#8, 0#8]).length) c57]].flatten, 0⟩), (44, ⟨true, b44, 0, 55, encs EntE L, (c44 - (L).length) * 33⟩), (57, ⟨true, b57, 0, 96, encs EntE (miL (N : Int) L [(L0.getD i default).p, 0#8, 0#8, 0#8, 0#8, 0#8, 0#8, 0#8, 0#8, 0#8, 0#8, 0#8, 0#8, 0#8, 0#8, 0#8, 0#8, 0#8, 0#8, 0#8, 0#8, 0#8, 0#8, 0#8, 0#8, 0#8, 0#8, 0#8, 0#8, 0#8, 0#8, 0#8]), (c57 - (miL (N : Int) L [(L0.getD i default).p, 0#8, 0#8, 0#8, 0#8, 0#8, 0#8, 0#8, 0#8, 0#8, 0#8, 0#8, 0#8, 0#8, 0#8, 0#8, 0#8, 0#8, 0#8, 0#8, 0#8, 0#8, 0#8, 0#8, 0#8, 0#8, 0#8, 0#8, 0#8, 0#8, 0#8, 0#8]).length) * 33⟩), (71, ⟨true, b71, 0, 55, encs EntE L, (c71 - (L).length) * 33⟩), (501, ⟨true, bx, 0, 96, encs EntE L, (cx - (L).length) * 33⟩), (601, ⟨true, bw, 0, 55, encs EntE WL, rw⟩)]) := by
         clear hG13_0 hG13_1 hG13_2 hG13_3 hG13_4 hG13_5 hG13_6 hG13_7 hG13_8 hG13_9 hG13_11 hG13_12 hG13_14 hG13_15 hG13_16 hG13_17
         refine hGo ?_
         refine At.bStep [0, 5] (by kernel_rfl) (by simp) ?_
         refine ⟨?_, ?_⟩
         ·
          refine At.bS false (by kernel_rfl) (S_buildSlice0 (some 76) 76 rfl Try.underlying42 sz55 (fun b76 => ?_))
          exact At.into (hGi (hG13_13 b76)) rfl rfl
         ·
          refine At.bSQ (some 81) (Q_loadO (k := 6) rfl rfl Try.underlying3 rfl rfl (seg_get (i := 1) (p := 0) rfl LN rfl)) ?_
          refine At.bP  9 (some 85) (P_build_struct (cs := ([[iV (N : Int)], ([(L0.getD i default).p, 0#8, 0#8, 0#8, 0#8, 0#8, 0#8, 0#8, 0#8, 0#8, 0#8, 0#8, 0#8, 0#8, 0#8, 0#8, 0#8, 0#8, 0#8, 0#8, 0#8, 0#8, 0#8, 0#8, 0#8, 0#8, 0#8, 0#8, 0#8, 0#8, 0#8, 0#8]).map u8V].flatten).toArray) (parts := _) (vs := [(0, _), (1, _)]) rfl Try.underlying55 ze55 pl55 rfl (by show Instr.fill _ ([[iV 0], (List.replicate 32 0#8).map u8V].flatten).toArray _ = _; refine fill_seg (k := 0) (vs := [iV (N : Int)]) rfl rfl LN rfl LN LN ?_; refine fill_seg (k := 1) (vs := ([(L0.getD i default).p, 0#8, 0#8, 0#8, 0#8, 0#8, 0#8, 0#8, 0#8, 0#8, 0#8, 0#8, 0#8, 0#8, 0#8, 0#8, 0#8, 0#8, 0#8, 0#8, 0#8, 0#8, 0#8, 0#8, 0#8, 0#8, 0#8, 0#8, 0#8, 0#8, 0#8, 0#8]).map u8V) rfl rfl LN rfl LN LN ?_; exact fill_end (by simp))) (by kernel_rfl) (by kernel_rfl) ?_
          exact At.into (hGi (hG13_10 )) rfl rfl
        have hG13_19 (b76 : Nat) : G 9 #[true, true, true, false, true, false, true, false, false, false, false, false, false, false] (frOf [(1, .slice Ar nr c), (2, ptr b2 0), (5, ptr b5 0), (6, ptr b6 0), (7, .map (some b7)), (8, iV (i : Int)), (12, ptr b12 0), (34, iV (i : Int)), (35, .bool (decide ((i : Int) < 60))), (64, iV (miI (N : Int) L)), (65, ptr b6 32), (66, iV (N : Int)), (67, .bool ((miI (N : Int) L) != (N : Int))), (70, .agg ([(key).map u8V, [iV (N : Int), .slice Ax L.length cx]].flatten).toArray), (71, .agg ([(key).map u8V, [iV (N : Int), .slice A71 L.length c71]].flatten).toArray), (72, .agg ([(key).map u8V, [iV (N : Int), .slice A44 L.length c44]].flatten).toArray), (73, .bool (saB key (N : Int) L key (N : Int) L)), (74, .bool (!(saB key (N : Int) L key (N : Int) L))), (76, .slice (some ⟨b76, 0, none⟩) 0 0), (78, .slice Aw L.length cw), (80, ptr b6 32), (82, ptr b9 2)]) (hOf [(0, ⟨false, b, q, 0, encs ActTN L0, 0⟩), (2, ⟨true, b2, 0, 23, (key).map u8V, 0⟩), (5, ⟨true, b5, 0, 40, [(key).map u8V, [iV (N : Int), .slice Ax L.length cx]].flatten, 0⟩), (6, ⟨true, b6, 0, 44, [(key).map u8V, [iV (N : Int), .slice Aw L.length cw]].flatten, 0⟩), (7, (mRow b7 U)), (9, ⟨true, b9, 0, 47, [iV ((L0.getD i default).w), iV ((L0.getD i default).i), u8V ((L0.getD i default).p)], 0⟩), (12, ⟨true, b12, 0, 40, [(miK key (N : Int) L).map u8V, [iV (miN (N : Int) L), .slice A57 ((miL (N : Int) L [(L0.getD i default).p, 0#8, 0#8, 0#8, 0#8, 0#8, 0#8, 0#8, 0#8, 0#8, 0#8, 0#8, 0#8, 0#8, 0#8, 0#8, 0#8, 0#8, 0#8, 0#8, 0#8, 0#8, 0#8, 0#8, 0#8, 0#8, 0#8, 0#8, 0#8, 0#8, 0#8, 0#8]).length) c57]].flatten, 0⟩), (44, ⟨true, b44, 0, 55, encs EntE L, (c44 - (L).length) * 33⟩), (57, ⟨true, b57, 0, 96, encs EntE (miL (N : Int) L [(L0.getD i default).p, 0#8, 0#8, 0#8, 0#8, 0#8, 0#8, 0#8, 0#8, 0#8, 0#8, 0#8, 0#8, 0#8, 0#8, 0#8, 0#8, 0#8, 0#8, 0#8, 0#8, 0#8, 0#8, 0#8, 0#8, 0#8, 0#8, 0#8, 0#8, 0#8, 0#8, 0#8]), (c57 - (miL (N : Int) L [(L0.getD i default).p, 0#8, 0#8, 0#8, 0#8, 0#8, 0#8, 0#8, 0#8, 0#8, 0#8, 0#8, 0#8, 0#8, 0#8, 0#8, 0#8, 0#8, 0#8, 0#8, 0#8, 0#8, 0#8, 0#8, 0#8, 0#8, 0#8, 0#8, 0#8, 0#8, 0#8, 0#8]).length) * 33⟩), (71, ⟨true, b71, 0, 55, encs EntE L, (c71 - (L).length) * 33⟩), (76, ⟨true, b76, 0, 55, [], 0⟩), (501, ⟨true, bx, 0, 96, encs EntE L, (cx - (L).length) * 33⟩), (601, ⟨true, bw, 0, 55, encs EntE WL, rw⟩)]) := by
         clear hG13_0 hG13_1 hG13_2 hG13_3 hG13_4 hG13_5 hG13_6 hG13_7 hG13_8 hG13_9 hG13_10 hG13_11 hG13_12 hG13_14 hG13_17 hG13_18
         refine hGo ?_
         refine At.bStep [3, 5, 7] (by kernel_rfl) (by simp) ?_
         refine ⟨?_, ?_, ?_⟩
         ·
          refine At.bS true (by kernel_rfl) (S_appendE (en := EntE) (some 79) 76 (L) (l := []) (L := L) (m := L.length) (sz := 33) rfl rfl Try.underlying42 Try.underlying42 (.inr ⟨_, rfl⟩) sz55 by55 ze55 rfl rfl (fun h => ⟨rfl, rfl⟩) LN OG OG (srcD hWL (SrcE.tail (en := EntE) (k := 601) (j := o) (L := WL) rfl rfl hAw (fun _ => ⟨rfl, rfl, OG⟩) OG)) OG OG (by rfl) LN ?_)
          intro A79 b79 c79 g79a g79b
          exact At.into (hGi (hG13_15 b76 A79 b79 c79 g79a g79b)) rfl rfl
         ·
          refine At.bSQ (some 81) (Q_loadO (k := 6) rfl rfl Try.underlying3 rfl rfl (seg_get (i := 1) (p := 0) rfl LN rfl)) ?_
          exact At.into (hGi (hG13_16 b76)) rfl rfl
         ·
          refine At.bSQ (some 83) (Q_loadO (k := 9) rfl rfl Try.underlying5 rfl rfl rfl) ?_
          refine At.bP  8 (some 84) (P_build_arr (cs := (([(L0.getD i default).p, 0#8, 0#8, 0#8, 0#8, 0#8, 0#8, 0#8, 0#8, 0#8, 0#8, 0#8, 0#8, 0#8, 0#8, 0#8, 0#8, 0#8, 0#8, 0#8, 0#8, 0#8, 0#8, 0#8, 0#8, 0#8, 0#8, 0#8, 0#8, 0#8, 0#8, 0#8]).map u8V).toArray) (parts := _) (vs := [(0, _)]) rfl Try.underlying23 sz5 ze23 rfl rfl) (by kernel_rfl) (by kernel_rfl) ?_
          exact At.into (hGi (hG13_13 b76)) rfl rfl
        have hG13_20 (b76 : Nat) : G 9 #[true, true, false, false, true, true, true, false, false, false, false, false, false, false] (frOf [(1, .slice Ar nr c), (2, ptr b2 0), (5, ptr b5 0), (6, ptr b6 0), (7, .map (some b7)), (8, iV (i : Int)), (12, ptr b12 0), (34, iV (i : Int)), (35, .bool (decide ((i : Int) < 60))), (64, iV (miI (N : Int) L)), (65, ptr b6 32), (66, iV (N : Int)), (67, .bool ((miI (N : Int) L) != (N : Int))), (70, .agg ([(key).map u8V, [iV (N : Int), .slice Ax L.length cx]].flatten).toArray), (71, .agg ([(key).map u8V, [iV (N : Int), .slice A71 L.length c71]].flatten).toArray), (72, .agg ([(key).map u8V, [iV (N : Int), .slice A44 L.length c44]].flatten).toArray), (73, .bool (saB key (N : Int) L key (N : Int) L)), (74, .bool (!(saB key (N : Int) L key (N : Int) L))), (76, .slice (some ⟨b76, 0, none⟩) 0 0), (77, ptr b6 33), (81, iV (N : Int)), (82, ptr b9 2)]) (hOf [(0, ⟨false, b, q, 0, encs ActTN L0, 0⟩), (2, ⟨true, b2, 0, 23, (key).map u8V, 0⟩), (5, ⟨true, b5, 0, 40, [(key).map u8V, [iV (N : Int), .slice Ax L.length cx]].flatten, 0⟩), (6, ⟨true, b6, 0, 44, [(key).map u8V, [iV (N : Int), .slice Aw L.length cw]].flatten, 0⟩), (7, (mRow b7 U)), (9, ⟨true, b9, 0, 47, [iV ((L0.getD i default).w), iV ((L0.getD i default).i), u8V ((L0.getD i default).p)], 0⟩), (12, ⟨true, b12, 0, 40, [(miK key (N : Int) L).map u8V, [iV (miN (N : Int) L), .slice A57 ((miL (N : Int) L [(L0.getD i default).p, 0#8, 0#8, 0#8, 0#8, 0#8, 0#8, 0#8, 0#8, 0#8, 0#8, 0#8, 0#8, 0#8, 0#8, 0#8, 0#8, 0#8, 0#8, 0#8, 0#8, 0#8, 0#8, 0#8, 0#8, 0#8, 0#8, 0#8, 0#8, 0#8, 0#8, 0#8]).length) c57]].flatten, 0⟩), (44, ⟨true, b44, 0, 55, encs EntE L, (c44 - (L).length) * 33⟩), (57, ⟨true, b57, 0, 96, encs EntE (miL (N : Int) L [(L0.getD i default).p, 0#8, 0#8, 0#8, 0#8, 0#8, 0#8, 0#8, 0#8, 0#8, 0#8, 0#8, 0#8, 0#8, 0#8, 0#8, 0#8, 0#8, 0#8, 0#8, 0#8, 0#8, 0#8, 0#8, 0#8, 0#8, 0#8, 0#8, 0#8, 0#8, 0#8, 0#8]), (c57 - (miL (N : Int) L [(L0.getD i default).p, 0#8, 0#8, 0#8, 0#8, 0#8, 0#8, 0#8, 0#8, 0#8, 0#8, 0#8, 0#8, 0#8, 0#8, 0#8, 0#8, 0#8, 0#8, 0#8, 0#8, 0#8, 0#8, 0#8, 0#8, 0#8, 0#8, 0#8, 0#8, 0#8, 0#8, 0#8]).length) * 33⟩), (71, ⟨true, b71, 0, 55, encs EntE L, (c71 - (L).length) * 33⟩), (76, ⟨true, b76, 0, 55, [], 0⟩), (501, ⟨true, bx, 0, 96, encs EntE L, (cx - (L).length) * 33⟩), (601, ⟨true, bw, 0, 55, encs EntE WL, rw⟩)]) := by
         clear hG13_0 hG13_1 hG13_2 hG13_3 hG13_4 hG13_5 hG13_6 hG13_7 hG13_8 hG13_10 hG13_11 hG13_12 hG13_13 hG13_14 hG13_15 hG13_17 hG13_18 hG13_19
         refine hGo ?_
         refine At.bStep [2, 7] (by kernel_rfl) (by simp) ?_
         refine ⟨?_, ?_⟩
         ·
          refine At.bSQ (some 78) (Q_loadO (k := 6) rfl rfl Try.underlying42 rfl rfl (seg_get (i := 1) (p := 1) rfl LN rfl)) ?_
          exact At.into (hGi (hG13_16 b76)) rfl rfl
         ·
          refine At.bSQ (some 83) (Q_loadO (k := 9) rfl rfl Try.underlying5 rfl rfl rfl) ?_
          refine At.bP  8 (some 84) (P_build_arr (cs := (([(L0.getD i default).p, 0#8, 0#8, 0#8, 0#8, 0#8, 0#8, 0#8, 0#8, 0#8, 0#8, 0#8, 0#8, 0#8, 0#8, 0#8, 0#8, 0#8, 0#8, 0#8, 0#8, 0#8, 0#8, 0#8, 0#8, 0#8, 0#8, 0#8, 0#8, 0#8, 0#8, 0#8]).map u8V).toArray) (parts := _) (vs := [(0, _)]) rfl Try.underlying23 sz5 ze23 rfl rfl) (by kernel_rfl) (by kernel_rfl) ?_
          refine At.bP  9 (some 85) (P_build_struct (cs := ([[iV (N : Int)], ([(L0.getD i default).p, 0#8, 0#8, 0#8, 0#8, 0#8, 0#8, 0#8, 0#8, 0#8, 0#8, 0#8, 0#8, 0#8, 0#8, 0#8, 0#8, 0#8, 0#8, 0#8, 0#8, 0#8, 0#8, 0#8, 0#8, 0#8, 0#8, 0#8, 0#8, 0#8, 0#8, 0#8]).map u8V].flatten).toArray) (parts := _) (vs := [(0, _), (1, _)]) rfl Try.underlying55 ze55 pl55 rfl (by show Instr.fill _ ([[iV 0], (List.replicate 32 0#8).map u8V].flatten).toArray _ = _; refine fill_seg (k := 0) (vs := [iV (N : Int)]) rfl rfl LN rfl LN LN ?_; refine fill_seg (k := 1) (vs := ([(L0.getD i default).p, 0#8, 0#8, 0#8, 0#8, 0#8, 0#8, 0#8, 0#8, 0#8, 0#8, 0#8, 0#8, 0#8, 0#8, 0#8, 0#8, 0#8, 0#8, 0#8, 0#8, 0#8, 0#8, 0#8, 0#8, 0#8, 0#8, 0#8, 0#8, 0#8, 0#8, 0#8]).map u8V) rfl rfl LN rfl LN LN ?_; exact fill_end (by simp))) (by kernel_rfl) (by kernel_rfl) ?_
          exact At.into (hGi (hG13_9 b76)) rfl rfl
        have hG13_21  : G 9 #[false, true, true, false, true, true, true, false, false, false, false, false, false, false] (frOf [(1, .slice Ar nr c), (2, ptr b2 0), (5, ptr b5 0), (6, ptr b6 0), (7, .map (some b7)), (8, iV (i : Int)), (12, ptr b12 0), (34, iV (i : Int)), (35, .bool (decide ((i : Int) < 60))), (64, iV (miI (N : Int) L)), (65, ptr b6 32), (66, iV (N : Int)), (67, .bool ((miI (N : Int) L) != (N : Int))), (70, .agg ([(key).map u8V, [iV (N : Int), .slice Ax L.length cx]].flatten).toArray), (71, .agg ([(key).map u8V, [iV (N : Int), .slice A71 L.length c71]].flatten).toArray), (72, .agg ([(key).map u8V, [iV (N : Int), .slice A44 L.length c44]].flatten).toArray), (73, .bool (saB key (N : Int) L key (N : Int) L)), (74, .bool (!(saB key (N : Int) L key (N : Int) L))), (78, .slice Aw L.length cw), (81, iV (N : Int)), (82, ptr b9 2)]) (hOf [(0, ⟨false, b, q, 0, encs ActTN L0, 0⟩), (2, ⟨true, b2, 0, 23, (key).map u8V, 0⟩), (5, ⟨true, b5, 0, 40, [(key).map u8V, [iV (N : Int), .slice Ax L.length cx]].flatten, 0⟩), (6, ⟨true, b6, 0, 44, [(key).map u8V, [iV (N : Int), .slice Aw L.length cw]].flatten, 0⟩), (7, (mRow b7 U)), (9, ⟨true, b9, 0, 47, [iV ((L0.getD i default).w), iV ((L0.getD i default).i), u8V ((L0.getD i default).p)], 0⟩), (12, ⟨true, b12, 0, 40, [(miK key (N : Int) L).map u8V, [iV (miN (N : Int) L), .slice A57 ((miL (N : Int) L [(L0.getD i default).p, 0#8, 0#8, 0#8, 0#8, 0#8, 0#8, 0#8, 0#8, 0#8, 0#8, 0#8, 0#8, 0#8, 0#8, 0#8, 0#8, 0#8, 0#8, 0#8, 0#8, 0#8, 0#8, 0#8, 0#8, 0#8, 0#8, 0#8, 0#8, 0#8, 0#8, 0#8]).length) c57]].flatten, 0⟩), (44, ⟨true, b44, 0, 55, encs EntE L, (c44 - (L).length) * 33⟩), (57, ⟨true, b57, 0, 96, encs EntE (miL (N : Int) L [(L0.getD i default).p, 0#8, 0#8, 0#8, 0#8, 0#8, 0#8, 0#8, 0#8, 0#8, 0#8, 0#8, 0#8, 0#8, 0#8, 0#8, 0#8, 0#8, 0#8, 0#8, 0#8, 0#8, 0#8, 0#8, 0#8, 0#8, 0#8, 0#8, 0#8, 0#8, 0#8, 0#8]), (c57 - (miL (N : Int) L [(L0.getD i default).p, 0#8, 0#8, 0#8, 0#8, 0#8, 0#8, 0#8, 0#8, 0#8, 0#8, 0#8, 0#8, 0#8, 0#8, 0#8, 0#8, 0#8, 0#8, 0#8, 0#8, 0#8, 0#8, 0#8, 0#8, 0#8, 0#8, 0#8, 0#8, 0#8, 0#8, 0#8]).length) * 33⟩), (71, ⟨true, b71, 0, 55, encs EntE L, (c71 - (L).length) * 33⟩), (501, ⟨true, bx, 0, 96, encs EntE L, (cx - (L).length) * 33⟩), (601, ⟨true, bw, 0, 55, encs EntE WL, rw⟩)]) := by
         clear hG13_0 hG13_1 hG13_2 hG13_3 hG13_4 hG13_5 hG13_6 hG13_7 hG13_8 hG13_9 hG13_11 hG13_12 hG13_13 hG13_14 hG13_15 hG13_17 hG13_18 hG13_19 hG13_20
         refine hGo ?_
         refine At.bStep [0, 7] (by kernel_rfl) (by simp) ?_
         refine ⟨?_, ?_⟩
         ·
          refine At.bS false (by kernel_rfl) (S_buildSlice0 (some 76) 76 rfl Try.underlying42 sz55 (fun b76 => ?_))
          exact At.into (hGi (hG13_16 b76)) rfl rfl
         ·
          refine At.bSQ (some 83) (Q_loadO (k := 9) rfl rfl Try.underlying5 rfl rfl rfl) ?_
          refine At.bP  8 (some 84) (P_build_arr (cs := (([(L0.getD i default).p, 0#8, 0#8, 0#8, 0#8, 0#8, 0#8, 0#8, 0#8, 0#8, 0#8, 0#8, 0#8, 0#8, 0#8, 0#8, 0#8, 0#8, 0#8, 0#8, 0#8, 0#8, 0#8, 0#8, 0#8, 0#8, 0#8, 0#8, 0#8, 0#8, 0#8, 0#8]).map u8V).toArray) (parts := _) (vs := [(0, _)]) rfl Try.underlying23 sz5 ze23 rfl rfl) (by kernel_rfl) (by kernel_rfl) ?_
          refine At.bP  9 (some 85) (P_build_struct (cs := ([[iV (N : Int)], ([(L0.getD i default).p, 0#8, 0#8, 0#8, 0#8, 0#8, 0#8, 0#8, 0#8, 0#8, 0#8, 0#8, 0#8, 0#8, 0#8, 0#8, 0#8, 0#8, 0#8, 0#8, 0#8, 0#8, 0#8, 0#8, 0#8, 0#8, 0#8, 0#8, 0#8, 0#8, 0#8, 0#8]).map u8V].flatten).toArray) (parts := _) (vs := [(0, _), (1, _)]) rfl Try.underlying55 ze55 pl55 rfl (by show Instr.fill _ ([[iV 0], (List.replicate 32 0#8).map u8V].flatten).toArray _ = _; refine fill_seg (k := 0) (vs := [iV (N : Int)]) rfl rfl LN rfl LN LN ?_; refine fill_seg (k := 1) (vs := ([(L0.getD i default).p, 0#8, 0#8, 0#8, 0#8, 0#8, 0#8, 0#8, 0#8, 0#8, 0#8, 0#8, 0#8, 0#8, 0#8, 0#8, 0#8, 0#8, 0#8, 0#8, 0#8, 0#8, 0#8, 0#8, 0#8, 0#8, 0#8, 0#8, 0#8, 0#8, 0#8, 0#8]).map u8V) rfl rfl LN rfl LN LN ?_; exact fill_end (by simp))) (by kernel_rfl) (by kernel_rfl) ?_
          exact At.into (hGi (hG13_10 )) rfl rfl
        have hG13_22  : G 9 #[false, true, false, false, true, false, true, true, true, false, false, false, false, false] (frOf [(1, .slice Ar nr c), (2, ptr b2 0), (5, ptr b5 0), (6, ptr b6 0), (7, .map (some b7)), (8, iV (i : Int)), (12, ptr b12 0), (34, iV (i : Int)), (35, .bool (decide ((i : Int) < 60))), (64, iV (miI (N : Int) L)), (65, ptr b6 32), (66, iV (N : Int)), (67, .bool ((miI (N : Int) L) != (N : Int))), (70, .agg ([(key).map u8V, [iV (N : Int), .slice Ax L.length cx]].flatten).toArray), (71, .agg ([(key).map u8V, [iV (N : Int), .slice A71 L.length c71]].flatten).toArray), (72, .agg ([(key).map u8V, [iV (N : Int), .slice A44 L.length c44]].flatten).toArray), (73, .bool (saB key (N : Int) L key (N : Int) L)), (74, .bool (!(saB key (N : Int) L key (N : Int) L))), (77, ptr b6 33), (80, ptr b6 32), (84, aggK [(L0.getD i default).p, 0#8, 0#8, 0#8, 0#8, 0#8, 0#8, 0#8, 0#8, 0#8, 0#8, 0#8, 0#8, 0#8, 0#8, 0#8, 0#8, 0#8, 0#8, 0#8, 0#8, 0#8, 0#8, 0#8, 0#8, 0#8, 0#8, 0#8, 0#8, 0#8, 0#8, 0#8])]) (hOf [(0, ⟨false, b, q, 0, encs ActTN L0, 0⟩), (2, ⟨true, b2, 0, 23, (key).map u8V, 0⟩), (5, ⟨true, b5, 0, 40, [(key).map u8V, [iV (N : Int), .slice Ax L.length cx]].flatten, 0⟩), (6, ⟨true, b6, 0, 44, [(key).map u8V, [iV (N : Int), .slice Aw L.length cw]].flatten, 0⟩), (7, (mRow b7 U)), (12, ⟨true, b12, 0, 40, [(miK key (N : Int) L).map u8V, [iV (miN (N : Int) L), .slice A57 ((miL (N : Int) L [(L0.getD i default).p, 0#8, 0#8, 0#8, 0#8, 0#8, 0#8, 0#8, 0#8, 0#8, 0#8, 0#8, 0#8, 0#8, 0#8, 0#8, 0#8, 0#8, 0#8, 0#8, 0#8, 0#8, 0#8, 0#8, 0#8, 0#8, 0#8, 0#8, 0#8, 0#8, 0#8, 0#8]).length) c57]].flatten, 0⟩), (44, ⟨true, b44, 0, 55, encs EntE L, (c44 - (L).length) * 33⟩), (57, ⟨true, b57, 0, 96, encs EntE (miL (N : Int) L [(L0.getD i default).p, 0#8, 0#8, 0#8, 0#8, 0#8, 0#8, 0#8, 0#8, 0#8, 0#8, 0#8, 0#8, 0#8, 0#8, 0#8, 0#8, 0#8, 0#8, 0#8, 0#8, 0#8, 0#8, 0#8, 0#8, 0#8, 0#8, 0#8, 0#8, 0#8, 0#8, 0#8]), (c57 - (miL (N : Int) L [(L0.getD i default).p, 0#8, 0#8, 0#8, 0#8, 0#8, 0#8, 0#8, 0#8, 0#8, 0#8, 0#8, 0#8, 0#8, 0#8, 0#8, 0#8, 0#8, 0#8, 0#8, 0#8, 0#8, 0#8, 0#8, 0#8, 0#8, 0#8, 0#8, 0#8, 0#8, 0#8, 0#8]).length) * 33⟩), (71, ⟨true, b71, 0, 55, encs EntE L, (c71 - (L).length) * 33⟩), (501, ⟨true, bx, 0, 96, encs EntE L, (cx - (L).length) * 33⟩), (601, ⟨true, bw, 0, 55, encs EntE WL, rw⟩)]) := by
         clear hG13_0 hG13_1 hG13_2 hG13_3 hG13_4 hG13_5 hG13_6 hG13_7 hG13_8 hG13_9 hG13_10 hG13_11 hG13_12 hG13_13 hG13_15 hG13_16 hG13_19 hG13_20 hG13_21
         refine hGo ?_
         refine At.bStep [0, 2, 5] (by kernel_rfl) (by simp) ?_
         refine ⟨?_, ?_, ?_⟩
         ·
          refine At.bS false (by kernel_rfl) (S_buildSlice0 (some 76) 76 rfl Try.underlying42 sz55 (fun b76 => ?_))
          exact At.into (hGi (hG13_17 b76)) rfl rfl
         ·
          refine At.bSQ (some 78) (Q_loadO (k := 6) rfl rfl Try.underlying42 rfl rfl (seg_get (i := 1) (p := 1) rfl LN rfl)) ?_
          exact At.into (hGi (hG13_18 )) rfl rfl
         ·
          refine At.bSQ (some 81) (Q_loadO (k := 6) rfl rfl Try.underlying3 rfl rfl (seg_get (i := 1) (p := 0) rfl LN rfl)) ?_
          refine At.bP  9 (some 85) (P_build_struct (cs := ([[iV (N : Int)], ([(L0.getD i default).p, 0#8, 0#8, 0#8, 0#8, 0#8, 0#8, 0#8, 0#8, 0#8, 0#8, 0#8, 0#8, 0#8, 0#8, 0#8, 0#8, 0#8, 0#8, 0#8, 0#8, 0#8, 0#8, 0#8, 0#8, 0#8, 0#8, 0#8, 0#8, 0#8, 0#8, 0#8]).map u8V].flatten).toArray) (parts := _) (vs := [(0, _), (1, _)]) rfl Try.underlying55 ze55 pl55 rfl (by show Instr.fill _ ([[iV 0], (List.replicate 32 0#8).map u8V].flatten).toArray _ = _; refine fill_seg (k := 0) (vs := [iV (N : Int)]) rfl rfl LN rfl LN LN ?_; refine fill_seg (k := 1) (vs := ([(L0.getD i default).p, 0#8, 0#8, 0#8, 0#8, 0#8, 0#8, 0#8, 0#8, 0#8, 0#8, 0#8, 0#8, 0#8, 0#8, 0#8, 0#8, 0#8, 0#8, 0#8, 0#8, 0#8, 0#8, 0#8, 0#8, 0#8, 0#8, 0#8, 0#8, 0#8, 0#8, 0#8]).map u8V) rfl rfl LN rfl LN LN ?_; exact fill_end (by simp))) (by kernel_rfl) (by kernel_rfl) ?_
          exact At.into (hGi (hG13_14 )) rfl rfl
        have hG13_23 (b76 : Nat) : G 10 #[true, true, false, false, true, false, true, false, false, false, false, false, false, false] (frOf [(1, .slice Ar nr c), (2, ptr b2 0), (5, ptr b5 0), (6, ptr b6 0), (7, .map (some b7)), (8, iV (i : Int)), (12, ptr b12 0), (34, iV (i : Int)), (35, .bool (decide ((i : Int) < 60))), (64, iV (miI (N : Int) L)), (65, ptr b6 32), (66, iV (N : Int)), (67, .bool ((miI (N : Int) L) != (N : Int))), (70, .agg ([(key).map u8V, [iV (N : Int), .slice Ax L.length cx]].flatten).toArray), (71, .agg ([(key).map u8V, [iV (N : Int), .slice A71 L.length c71]].flatten).toArray), (72, .agg ([(key).map u8V, [iV (N : Int), .slice A44 L.length c44]].flatten).toArray), (73, .bool (saB key (N : Int) L key (N : Int) L)), (74, .bool (!(saB key (N : Int) L key (N : Int) L))), (76, .slice (some ⟨b76, 0, none⟩) 0 0), (77, ptr b6 33), (80, ptr b6 32), (82, ptr b9 2)]) (hOf [(0, ⟨false, b, q, 0, encs ActTN L0, 0⟩), (2, ⟨true, b2, 0, 23, (key).map u8V, 0⟩), (5, ⟨true, b5, 0, 40, [(key).map u8V, [iV (N : Int), .slice Ax L.length cx]].flatten, 0⟩), (6, ⟨true, b6, 0, 44, [(key).map u8V, [iV (N : Int), .slice Aw L.length cw]].flatten, 0⟩), (7, (mRow b7 U)), (9, ⟨true, b9, 0, 47, [iV ((L0.getD i default).w), iV ((L0.getD i default).i), u8V ((L0.getD i default).p)], 0⟩), (12, ⟨true, b12, 0, 40, [(miK key (N : Int) L).map u8V, [iV (miN (N : Int) L), .slice A57 ((miL (N : Int) L [(L0.getD i default).p, 0#8, 0#8, 0#8, 0#8, 0#8, 0#8, 0#8, 0#8, 0#8, 0#8, 0#8, 0#8, 0#8, 0#8, 0#8, 0#8, 0#8, 0#8, 0#8, 0#8, 0#8, 0#8, 0#8, 0#8, 0#8, 0#8, 0#8, 0#8, 0#8, 0#8, 0#8]).length) c57]].flatten, 0⟩), (44, ⟨true, b44, 0, 55, encs EntE L, (c44 - (L).length) * 33⟩), (57, ⟨true, b57, 0, 96, encs EntE (miL (N : Int) L [(L0.getD i default).p, 0#8, 0#8, 0#8, 0#8, 0#8, 0#8, 0#8, 0#8, 0#8, 0#8, 0#8, 0#8, 0#8, 0#8, 0#8, 0#8, 0#8, 0#8, 0#8, 0#8, 0#8, 0#8, 0#8, 0#8, 0#8, 0#8, 0#8, 0#8, 0#8, 0#8, 0#8]), (c57 - (miL (N : Int) L [(L0.getD i default).p, 0#8, 0#8, 0#8, 0#8, 0#8, 0#8, 0#8, 0#8, 0#8, 0#8, 0#8, 0#8, 0#8, 0#8, 0#8, 0#8, 0#8, 0#8, 0#8, 0#8, 0#8, 0#8, 0#8, 0#8, 0#8, 0#8, 0#8, 0#8, 0#8, 0#8, 0#8]).length) * 33⟩), (71, ⟨true, b71, 0, 55, encs EntE L, (c71 - (L).length) * 33⟩), (76, ⟨true, b76, 0, 55, [], 0⟩), (501, ⟨true, bx, 0, 96, encs EntE L, (cx - (L).length) * 33⟩), (601, ⟨true, bw, 0, 55, encs EntE WL, rw⟩)]) := by
         clear hG13_0 hG13_1 hG13_2 hG13_3 hG13_4 hG13_5 hG13_6 hG13_7 hG13_8 hG13_9 hG13_10 hG13_11 hG13_12 hG13_13 hG13_14 hG13_15 hG13_16 hG13_18 hG13_21 hG13_22
         refine hGo ?_
         refine At.bStep [2, 5, 7] (by kernel_rfl) (by simp) ?_
         refine ⟨?_, ?_, ?_⟩
         ·
          refine At.bSQ (some 78) (Q_loadO (k := 6) rfl rfl Try.underlying42 rfl rfl (seg_get (i := 1) (p := 1) rfl LN rfl)) ?_
          exact At.into (hGi (hG13_19 b76)) rfl rfl
         ·
          refine At.bSQ (some 81) (Q_loadO (k := 6) rfl rfl Try.underlying3 rfl rfl (seg_get (i := 1) (p := 0) rfl LN rfl)) ?_
          exact At.into (hGi (hG13_20 b76)) rfl rfl
         ·
          refine At.bSQ (some 83) (Q_loadO (k := 9) rfl rfl Try.underlying5 rfl rfl rfl) ?_
          refine At.bP  8 (some 84) (P_build_arr (cs := (([(L0.getD i default).p, 0#8, 0#8, 0#8, 0#8, 0#8, 0#8, 0#8, 0#8, 0#8, 0#8, 0#8, 0#8, 0#8, 0#8, 0#8, 0#8, 0#8, 0#8, 0#8, 0#8, 0#8, 0#8, 0#8, 0#8, 0#8, 0#8, 0#8, 0#8, 0#8, 0#8, 0#8]).map u8V).toArray) (parts := _) (vs := [(0, _)]) rfl Try.underlying23 sz5 ze23 rfl rfl) (by kernel_rfl) (by kernel_rfl) ?_
          exact At.into (hGi (hG13_17 b76)) rfl rfl
        have hG13_24  : G 10 #[false, true, true, false, true, false, true, false, false, false, false, false, false, false] (frOf [(1, .slice Ar nr c), (2, ptr b2 0), (5, ptr b5 0), (6, ptr b6 0), (7, .map (some b7)), (8, iV (i : Int)), (12, ptr b12 0), (34, iV (i : Int)), (35, .bool (decide ((i : Int) < 60))), (64, iV (miI (N : Int) L)), (65, ptr b6 32), (66, iV (N : Int)), (67, .bool ((miI (N : Int) L) != (N : Int))), (70, .agg ([(key).map u8V, [iV (N : Int), .slice Ax L.length cx]].flatten).toArray), (71, .agg ([(key).map u8V, [iV (N : Int), .slice A71 L.length c71]].flatten).toArray), (72, .agg ([(key).map u8V, [iV (N : Int), .slice A44 L.length c44]].flatten).toArray), (73, .bool (saB key (N : Int) L key (N : Int) L)), (74, .bool (!(saB key (N : Int) L key (N : Int) L))), (78, .slice Aw L.length cw), (80, ptr b6 32), (82, ptr b9 2)]) (hOf [(0, ⟨false, b, q, 0, encs ActTN L0, 0⟩), (2, ⟨true, b2, 0, 23, (key).map u8V, 0⟩), (5, ⟨true, b5, 0, 40, [(key).map u8V, [iV (N : Int), .slice Ax L.length cx]].flatten, 0⟩), (6, ⟨true, b6, 0, 44, [(key).map u8V, [iV (N : Int), .slice Aw L.length cw]].flatten, 0⟩), (7, (mRow b7 U)), (9, ⟨true, b9, 0, 47, [iV ((L0.getD i default).w), iV ((L0.getD i default).i), u8V ((L0.getD i default).p)], 0⟩), (12, ⟨true, b12, 0, 40, [(miK key (N : Int) L).map u8V, [iV (miN (N : Int) L), .slice A57 ((miL (N : Int) L [(L0.getD i default).p, 0#8, 0#8, 0#8, 0#8, 0#8, 0#8, 0#8, 0#8, 0#8, 0#8, 0#8, 0#8, 0#8, 0#8, 0#8, 0#8, 0#8, 0#8, 0#8, 0#8, 0#8, 0#8, 0#8, 0#8, 0#8, 0#8, 0#8, 0#8, 0#8, 0#8, 0#8]).length) c57]].flatten, 0⟩), (44, ⟨true, b44, 0, 55, encs EntE L, (c44 - (L).length) * 33⟩), (57, ⟨true, b57, 0, 96, encs EntE (miL (N : Int) L [(L0.getD i default).p, 0#8, 0#8, 0#8, 0#8, 0#8, 0#8, 0#8, 0#8, 0#8, 0#8, 0#8, 0#8, 0#8, 0#8, 0#8, 0#8, 0#8, 0#8, 0#8, 0#8, 0#8, 0#8, 0#8, 0#8, 0#8, 0#8, 0#8, 0#8, 0#8, 0#8, 0#8]), (c57 - (miL (N : Int) L [(L0.getD i default).p, 0#8, 0#8, 0#8, 0#8, 0#8, 0#8, 0#8, 0#8, 0#8, 0#8, 0#8, 0#8, 0#8, 0#8, 0#8, 0#8, 0#8, 0#8, 0#8, 0#8, 0#8, 0#8, 0#8, 0#8, 0#8, 0#8, 0#8, 0#8, 0#8, 0#8, 0#8]).length) * 33⟩), (71, ⟨true, b71, 0, 55, encs EntE L, (c71 - (L).length) * 33⟩), (501, ⟨true, bx, 0, 96, encs EntE L, (cx - (L).length) * 33⟩), (601, ⟨true, bw, 0, 55, encs EntE WL, rw⟩)]) := by
         clear hG13_0 hG13_1 hG13_2 hG13_3 hG13_4 hG13_5 hG13_6 hG13_7 hG13_8 hG13_9 hG13_10 hG13_11 hG13_12 hG13_13 hG13_14 hG13_15 hG13_16 hG13_17 hG13_20 hG13_22 hG13_23
         refine hGo ?_
         refine At.bStep [0, 5, 7] (by kernel_rfl) (by simp) ?_
         refine ⟨?_, ?_, ?_⟩
         ·
          refine At.bS false (by kernel_rfl) (S_buildSlice0 (some 76) 76 rfl Try.underlying42 sz55 (fun b76 => ?_))
          exact At.into (hGi (hG13_19 b76)) rfl rfl
         ·
          refine At.bSQ (some 81) (Q_loadO (k := 6) rfl rfl Try.underlying3 rfl rfl (seg_get (i := 1) (p := 0) rfl LN rfl)) ?_
          exact At.into (hGi (hG13_21 )) rfl rfl
         ·
          refine At.bSQ (some 83) (Q_loadO (k := 9) rfl rfl Try.underlying5 rfl rfl rfl) ?_
          refine At.bP  8 (some 84) (P_build_arr (cs := (([(L0.getD i default).p, 0#8, 0#8, 0#8, 0#8, 0#8, 0#8, 0#8, 0#8, 0#8, 0#8, 0#8, 0#8, 0#8, 0#8, 0#8, 0#8, 0#8, 0#8, 0#8, 0#8, 0#8, 0#8, 0#8, 0#8, 0#8, 0#8, 0#8, 0#8, 0#8, 0#8, 0#8]).map u8V).toArray) (parts := _) (vs := [(0, _)]) rfl Try.underlying23 sz5 ze23 rfl rfl) (by kernel_rfl) (by kernel_rfl) ?_
          exact At.into (hGi (hG13_18 )) rfl rfl
        have hG13_25  : G 10 #[false, true, false, false, true, true, true, false, false, false, false, false, false, false] (frOf [(1, .slice Ar nr c), (2, ptr b2 0), (5, ptr b5 0), (6, ptr b6 0), (7, .map (some b7)), (8, iV (i : Int)), (12, ptr b12 0), (34, iV (i : Int)), (35, .bool (decide ((i : Int) < 60))), (64, iV (miI (N : Int) L)), (65, ptr b6 32), (66, iV (N : Int)), (67, .bool ((miI (N : Int) L) != (N : Int))), (70, .agg ([(key).map u8V, [iV (N : Int), .slice Ax L.length cx]].flatten).toArray), (71, .agg ([(key).map u8V, [iV (N : Int), .slice A71 L.length c71]].flatten).toArray), (72, .agg ([(key).map u8V, [iV (N : Int), .slice A44 L.length c44]].flatten).toArray), (73, .bool (saB key (N : Int) L key (N : Int) L)), (74, .bool (!(saB key (N : Int) L key (N : Int) L))), (77, ptr b6 33), (81, iV (N : Int)), (82, ptr b9 2)]) (hOf [(0, ⟨false, b, q, 0, encs ActTN L0, 0⟩), (2, ⟨true, b2, 0, 23, (key).map u8V, 0⟩), (5, ⟨true, b5, 0, 40, [(key).map u8V, [iV (N : Int), .slice Ax L.length cx]].flatten, 0⟩), (6, ⟨true, b6, 0, 44, [(key).map u8V, [iV (N : Int), .slice Aw L.length cw]].flatten, 0⟩), (7, (mRow b7 U)), (9, ⟨true, b9, 0, 47, [iV ((L0.getD i default).w), iV ((L0.getD i default).i), u8V ((L0.getD i default).p)], 0⟩), (12, ⟨true, b12, 0, 40, [(miK key (N : Int) L).map u8V, [iV (miN (N : Int) L), .slice A57 ((miL (N : Int) L [(L0.getD i default).p, 0#8, 0#8, 0#8, 0#8, 0#8, 0#8, 0#8, 0#8, 0#8, 0#8, 0#8, 0#8, 0#8, 0#8, 0#8, 0#8, 0#8, 0#8, 0#8, 0#8, 0#8, 0#8, 0#8, 0#8, 0#8, 0#8, 0#8, 0#8, 0#8, 0#8, 0#8]).length) c57]].flatten, 0⟩), (44, ⟨true, b44, 0, 55, encs EntE L, (c44 - (L).length) * 33⟩), (57, ⟨true, b57, 0, 96, encs EntE (miL (N : Int) L [(L0.getD i default).p, 0#8, 0#8, 0#8, 0#8, 0#8, 0#8, 0#8, 0#8, 0#8, 0#8, 0#8, 0#8, 0#8, 0#8, 0#8, 0#8, 0#8, 0#8, 0#8, 0#8, 0#8, 0#8, 0#8, 0#8, 0#8, 0#8, 0#8, 0#8, 0#8, 0#8, 0#8]), (c57 - (miL (N : Int) L [(L0.getD i default).p, 0#8, 0#8, 0#8, 0#8, 0#8, 0#8, 0#8, 0#8, 0#8, 0#8, 0#8, 0#8, 0#8, 0#8, 0#8, 0#8, 0#8, 0#8, 0#8, 0#8, 0#8, 0#8, 0#8, 0#8, 0#8, 0#8, 0#8, 0#8, 0#8, 0#8, 0#8]).length) * 33⟩), (71, ⟨true, b71, 0, 55, encs EntE L, (c71 - (L).length) * 33⟩), (501, ⟨true, bx, 0, 96, encs EntE L, (cx - (L).length) * 33⟩), (601, ⟨true, bw, 0, 55, encs EntE WL, rw⟩)]) := by
         clear hG13_0 hG13_1 hG13_2 hG13_3 hG13_4 hG13_5 hG13_6 hG13_7 hG13_8 hG13_9 hG13_10 hG13_11 hG13_12 hG13_13 hG13_15 hG13_16 hG13_17 hG13_18 hG13_19 hG13_22 hG13_23 hG13_24
         refine hGo ?_
         refine At.bStep [0, 2, 7] (by kernel_rfl) (by simp) ?_
         refine ⟨?_, ?_, ?_⟩
         ·
          refine At.bS false (by kernel_rfl) (S_buildSlice0 (some 76) 76 rfl Try.underlying42 sz55 (fun b76 => ?_))
          exact At.into (hGi (hG13_20 b76)) rfl rfl
         ·
          refine At.bSQ (some 78) (Q_loadO (k := 6) rfl rfl Try.underlying42 rfl rfl (seg_get (i := 1) (p := 1) rfl LN rfl)) ?_
          exact At.into (hGi (hG13_21 )) rfl rfl
         ·
          refine At.bSQ (some 83) (Q_loadO (k := 9) rfl rfl Try.underlying5 rfl rfl rfl) ?_
          refine At.bP  8 (some 84) (P_build_arr (cs := (([(L0.getD i default).p, 0#8, 0#8, 0#8, 0#8, 0#8, 0#8, 0#8, 0#8, 0#8, 0#8, 0#8, 0#8, 0#8, 0#8, 0#8, 0#8, 0#8, 0#8, 0#8, 0#8, 0#8, 0#8, 0#8, 0#8, 0#8, 0#8, 0#8, 0#8, 0#8, 0#8, 0#8]).map u8V).toArray) (parts := _) (vs := [(0, _)]) rfl Try.underlying23 sz5 ze23 rfl rfl) (by kernel_rfl) (by kernel_rfl) ?_
          refine At.bP  9 (some 85) (P_build_struct (cs := ([[iV (N : Int)], ([(L0.getD i default).p, 0#8, 0#8, 0#8, 0#8, 0#8, 0#8, 0#8, 0#8, 0#8, 0#8, 0#8, 0#8, 0#8, 0#8, 0#8, 0#8, 0#8, 0#8, 0#8, 0#8, 0#8, 0#8, 0#8, 0#8, 0#8, 0#8, 0#8, 0#8, 0#8, 0#8, 0#8]).map u8V].flatten).toArray) (parts := _) (vs := [(0, _), (1, _)]) rfl Try.underlying55 ze55 pl55 rfl (by show Instr.fill _ ([[iV 0], (List.replicate 32 0#8).map u8V].flatten).toArray _ = _; refine fill_seg (k := 0) (vs := [iV (N : Int)]) rfl rfl LN rfl LN LN ?_; refine fill_seg (k := 1) (vs := ([(L0.getD i default).p, 0#8, 0#8, 0#8, 0#8, 0#8, 0#8, 0#8, 0#8, 0#8, 0#8, 0#8, 0#8, 0#8, 0#8, 0#8, 0#8, 0#8, 0#8, 0#8, 0#8, 0#8, 0#8, 0#8, 0#8, 0#8, 0#8, 0#8, 0#8, 0#8, 0#8, 0#8]).map u8V) rfl rfl LN rfl LN LN ?_; exact fill_end (by simp))) (by kernel_rfl) (by kernel_rfl) ?_
          exact At.into (hGi (hG13_14 )) rfl rfl
        have hG13_26  : G 11 #[false, true, false, false, true, false, true, false, false, false, false, false, false, false] (frOf [(1, .slice Ar nr c), (2, ptr b2 0), (5, ptr b5 0), (6, ptr b6 0), (7, .map (some b7)), (8, iV (i : Int)), (12, ptr b12 0), (34, iV (i : Int)), (35, .bool (decide ((i : Int) < 60))), (64, iV (miI (N : Int) L)), (65, ptr b6 32), (66, iV (N : Int)), (67, .bool ((miI (N : Int) L) != (N : Int))), (70, .agg ([(key).map u8V, [iV (N : Int), .slice Ax L.length cx]].flatten).toArray), (71, .agg ([(key).map u8V, [iV (N : Int), .slice A71 L.length c71]].flatten).toArray), (72, .agg ([(key).map u8V, [iV (N : Int), .slice A44 L.length c44]].flatten).toArray), (73, .bool (saB key (N : Int) L key (N : Int) L)), (74, .bool (!(saB key (N : Int) L key (N : Int) L))), (77, ptr b6 33), (80, ptr b6 32), (82, ptr b9 2)]) (hOf [(0, ⟨false, b, q, 0, encs ActTN L0, 0⟩), (2, ⟨true, b2, 0, 23, (key).map u8V, 0⟩), (5, ⟨true, b5, 0, 40, [(key).map u8V, [iV (N : Int), .slice Ax L.length cx]].flatten, 0⟩), (6, ⟨true, b6, 0, 44, [(key).map u8V, [iV (N : Int), .slice Aw L.length cw]].flatten, 0⟩), (7, (mRow b7 U)), (9, ⟨true, b9, 0, 47, [iV ((L0.getD i default).w), iV ((L0.getD i default).i), u8V ((L0.getD i default).p)], 0⟩), (12, ⟨true, b12, 0, 40, [(miK key (N : Int) L).map u8V, [iV (miN (N : Int) L), .slice A57 ((miL (N : Int) L [(L0.getD i default).p, 0#8, 0#8, 0#8, 0#8, 0#8, 0#8, 0#8, 0#8, 0#8, 0#8, 0#8, 0#8, 0#8, 0#8, 0#8, 0#8, 0#8, 0#8, 0#8, 0#8, 0#8, 0#8, 0#8, 0#8, 0#8, 0#8, 0#8, 0#8, 0#8, 0#8, 0#8]).length) c57]].flatten, 0⟩), (44, ⟨true, b44, 0, 55, encs EntE L, (c44 - (L).length) * 33⟩), (57, ⟨true, b57, 0, 96, encs EntE (miL (N : Int) L [(L0.getD i default).p, 0#8, 0#8, 0#8, 0#8, 0#8, 0#8, 0#8, 0#8, 0#8, 0#8, 0#8, 0#8, 0#8, 0#8, 0#8, 0#8, 0#8, 0#8, 0#8, 0#8, 0#8, 0#8, 0#8, 0#8, 0#8, 0#8, 0#8, 0#8, 0#8, 0#8, 0#8]), (c57 - (miL (N : Int) L [(L0.getD i default).p, 0#8, 0#8, 0#8, 0#8, 0#8, 0#8, 0#8, 0#8, 0#8, 0#8, 0#8, 0#8, 0#8, 0#8, 0#8, 0#8, 0#8, 0#8, 0#8, 0#8, 0#8, 0#8, 0#8, 0#8, 0#8, 0#8, 0#8, 0#8, 0#8, 0#8, 0#8]).length) * 33⟩), (71, ⟨true, b71, 0, 55, encs EntE L, (c71 - (L).length) * 33⟩), (501, ⟨true, bx, 0, 96, encs EntE L, (cx - (L).length) * 33⟩), (601, ⟨true, bw, 0, 55, encs EntE WL, rw⟩)]) := by
         clear hG13_0 hG13_1 hG13_2 hG13_3 hG13_4 hG13_5 hG13_6 hG13_7 hG13_8 hG13_9 hG13_10 hG13_11 hG13_12 hG13_13 hG13_14 hG13_15 hG13_16 hG13_17 hG13_18 hG13_19 hG13_20 hG13_21
         refine hGo ?_
         refine At.bStep [0, 2, 5, 7] (by kernel_rfl) (by simp) ?_
         refine ⟨?_, ?_, ?_, ?_⟩
         ·
          refine At.bS false (by kernel_rfl) (S_buildSlice0 (some 76) 76 rfl Try.underlying42 sz55 (fun b76 => ?_))
          exact At.into (hGi (hG13_23 b76)) rfl rfl
         ·
          refine At.bSQ (some 78) (Q_loadO (k := 6) rfl rfl Try.underlying42 rfl rfl (seg_get (i := 1) (p := 1) rfl LN rfl)) ?_
          exact At.into (hGi (hG13_24 )) rfl rfl
         ·
          refine At.bSQ (some 81) (Q_loadO (k := 6) rfl rfl Try.underlying3 rfl rfl (seg_get (i := 1) (p := 0) rfl LN rfl)) ?_
          exact At.into (hGi (hG13_25 )) rfl rfl
         ·
          refine At.bSQ (some 83) (Q_loadO (k := 9) rfl rfl Try.underlying5 rfl rfl rfl) ?_
          refine At.bP  8 (some 84) (P_build_arr (cs := (([(L0.getD i default).p, 0#8, 0#8, 0#8, 0#8, 0#8, 0#8, 0#8, 0#8, 0#8, 0#8, 0#8, 0#8, 0#8, 0#8, 0#8, 0#8, 0#8, 0#8, 0#8, 0#8, 0#8, 0#8, 0#8, 0#8, 0#8, 0#8, 0#8, 0#8, 0#8, 0#8, 0#8]).map u8V).toArray) (parts := _) (vs := [(0, _)]) rfl Try.underlying23 sz5 ze23 rfl rfl) (by kernel_rfl) (by kernel_rfl) ?_
          exact At.into (hGi (hG13_22 )) rfl rfl
        clear hG13_0 hG13_1 hG13_2 hG13_3 hG13_4 hG13_5 hG13_6 hG13_7 hG13_8 hG13_9 hG13_10 hG13_11 hG13_12 hG13_13 hG13_14 hG13_15 hG13_16 hG13_17 hG13_18 hG13_19 hG13_20 hG13_21 hG13_22 hG13_23 hG13_24 hG13_25
        refine hGo ?_
        refine At.bP  1 (some 77) (P_fieldAddr0 (off := 33) rfl Try.underlying44 rfl sz42 rfl rfl) (by kernel_rfl) (by kernel_rfl) ?_
        refine At.bP  4 (some 80) (P_fieldAddr0 (off := 32) rfl Try.underlying44 rfl sz3 rfl rfl) (by kernel_rfl) (by kernel_rfl) ?_
        refine At.bP  6 (some 82) (P_fieldAddr0 (off := 2) rfl Try.underlying47 rfl sz5 rfl rfl) (by kernel_rfl) (by kernel_rfl) ?_
        exact At.into (hGi (hG13_26 )) rfl rfl
       ·
        rintro fr H ⟨b76, A79, b79, c79, b86, A87, b87, c87, rfl, rfl, g79a, g79b, g87a, g87b, -⟩
        refine At.next ?_
        refine At.seq ?_
        refine At.region ?_
        refine At.p (some 89) (P_fieldAddr0 (off := 32) rfl Try.underlying44 rfl sz3 rfl rfl) ?_
        refine At.q (some 90) (Q_loadO (k := 6) rfl rfl Try.underlying3 rfl rfl (seg_get (i := 1) (p := 0) rfl LN rfl)) ?_
        refine At.p (some 91) (P_add_i rfl rfl rfl (by omega)) ?_
        refine At.p (some 92) (P_fieldAddr0 (off := 32) rfl Try.underlying44 rfl sz3 rfl rfl) ?_
        refine At.s (S_store none (k := 6) rfl rfl rfl sz3 rfl rfl rfl LN ?_)
        refine At.row 6 (⟨true, b6, 0, 44, [(key).map u8V, [iV ((N : Int) + 1), .slice A87 ((L ++ [mkEnt (N : Int) [(L0.getD i default).p, 0#8, 0#8, 0#8, 0#8, 0#8, 0#8, 0#8, 0#8, 0#8, 0#8, 0#8, 0#8, 0#8, 0#8, 0#8, 0#8, 0#8, 0#8, 0#8, 0#8, 0#8, 0#8, 0#8, 0#8, 0#8, 0#8, 0#8, 0#8, 0#8, 0#8, 0#8]]).length) c87]].flatten, 0⟩) rfl (seg_set1 (x := [iV (N : Int), .slice A87 ((L ++ [mkEnt (N : Int) [(L0.getD i default).p, 0#8, 0#8, 0#8, 0#8, 0#8, 0#8, 0#8, 0#8, 0#8, 0#8, 0#8, 0#8, 0#8, 0#8, 0#8, 0#8, 0#8, 0#8, 0#8, 0#8, 0#8, 0#8, 0#8, 0#8, 0#8, 0#8, 0#8, 0#8, 0#8, 0#8, 0#8]]).length) c87]) (i := 1) (p := 0) rfl LN OG) ?_
        refine At.nil ?_
        refine At.next ?_
        refine At.seq ?_
        refine At.seq ?_
        refine At.region ?_
        refine At.p (some 93) (P_fieldAddr0 (off := 33) rfl Try.underlying44 rfl sz42 rfl rfl) ?_
        refine At.q (some 94) (Q_loadO (k := 6) rfl rfl Try.underlying42 rfl rfl (seg_get (i := 1) (p := 1) rfl LN rfl)) ?_
        refine At.p (some 95) (P_len_sl rfl rfl ⟨_, Try.underlying42⟩ rfl) ?_
        refine At.p (some 96) (P_cmp rfl rfl rfl rfl rfl rfl) ?_
        refine At.nil ?_
        refine At.next ?_
        refine At.cond rfl (fun h96 => ?_) (fun h96 => ?_)
        · -- cond 96 t
         have e96 : ((L ++ [mkEnt (N : Int) [(L0.getD i default).p, 0#8, 0#8, 0#8, 0#8, 0#8, 0#8, 0#8, 0#8, 0#8, 0#8, 0#8, 0#8, 0#8, 0#8, 0#8, 0#8, 0#8, 0#8, 0#8, 0#8, 0#8, 0#8, 0#8, 0#8, 0#8, 0#8, 0#8, 0#8, 0#8, 0#8, 0#8]]).length : Int) > 8 := of_decide_eq_true h96
         refine At.region ?_
         refine At.p (some 97) (P_fieldAddr0 (off := 33) rfl Try.underlying44 rfl sz42 rfl rfl) ?_
         refine At.q (some 98) (Q_loadO (k := 6) rfl rfl Try.underlying42 rfl rfl (seg_get (i := 1) (p := 1) rfl LN rfl)) ?_
         refine At.p (some 99) (P_slice_sl (l := 1) (h := (L ++ [mkEnt (N : Int) [(L0.getD i default).p, 0#8, 0#8, 0#8, 0#8, 0#8, 0#8, 0#8, 0#8, 0#8, 0#8, 0#8, 0#8, 0#8, 0#8, 0#8, 0#8, 0#8, 0#8, 0#8, 0#8, 0#8, 0#8, 0#8, 0#8, 0#8, 0#8, 0#8, 0#8, 0#8, 0#8, 0#8]]).length) (m := c87) rfl Try.underlying42 sz55 rfl ⟨_, _, rfl, rfl⟩ rfl rfl DO DO DO) ?_
         refine At.p (some 100) (P_fieldAddr0 (off := 33) rfl Try.underlying44 rfl sz42 rfl rfl) ?_
         refine At.s (S_store none (k := 6) rfl rfl rfl sz42 rfl rfl rfl LN ?_)
         refine At.row 6 (⟨true, b6, 0, 44, [(key).map u8V, [iV ((N : Int) + 1), .slice (cut A87 1 c87 33) (((L ++ [mkEnt (N : Int) [(L0.getD i default).p, 0#8, 0#8, 0#8, 0#8, 0#8, 0#8, 0#8, 0#8, 0#8, 0#8, 0#8, 0#8, 0#8, 0#8, 0#8, 0#8, 0#8, 0#8, 0#8, 0#8, 0#8, 0#8, 0#8, 0#8, 0#8, 0#8, 0#8, 0#8, 0#8, 0#8, 0#8]]).length) - 1) (c87 - 1)]].flatten, 0⟩) rfl (seg_set1 (x := [iV ((N : Int) + 1), .slice A87 ((L ++ [mkEnt (N : Int) [(L0.getD i default).p, 0#8, 0#8, 0#8, 0#8, 0#8, 0#8, 0#8, 0#8, 0#8, 0#8, 0#8, 0#8, 0#8, 0#8, 0#8, 0#8, 0#8, 0#8, 0#8, 0#8, 0#8, 0#8, 0#8, 0#8, 0#8, 0#8, 0#8, 0#8, 0#8, 0#8, 0#8]]).length) c87]) (i := 1) (p := 1) rfl LN OG) ?_
         refine At.nil ?_
         refine At.next ?_
         refine At.region ?_
         refine At.q (some 101) (Q_loadA (k := 12) rfl rfl Try.underlying40 rfl sz40 LN rfl) ?_
         refine At.s (S_storeA none (k := 5) (vs := [(miK key (N : Int) L).map u8V, [iV (miN (N : Int) L), .slice A57 ((miL (N : Int) L [(L0.getD i default).p, 0#8, 0#8, 0#8, 0#8, 0#8, 0#8, 0#8, 0#8, 0#8, 0#8, 0#8, 0#8, 0#8, 0#8, 0#8, 0#8, 0#8, 0#8, 0#8, 0#8, 0#8, 0#8, 0#8, 0#8, 0#8, 0#8, 0#8, 0#8, 0#8, 0#8, 0#8]).length) c57]].flatten) rfl rfl rfl (by rw [sz40]; exact congrArg some LN) rfl (one_flatc (one_map (fun _ => rfl)) (one_flatc (one_cons rfl (one_cons rfl one_nil)) one_flat0)) NG rfl LN ?_)
         refine At.nil ?_
         refine At.next ?_
         refine At.swap 57 501 ?_
         refine At.swap 76 601 ?_
         have hWl : (L ++ [mkEnt (N : Int) [(L0.getD i default).p, 0#8, 0#8, 0#8, 0#8, 0#8, 0#8, 0#8, 0#8, 0#8, 0#8, 0#8, 0#8, 0#8, 0#8, 0#8, 0#8, 0#8, 0#8, 0#8, 0#8, 0#8, 0#8, 0#8, 0#8, 0#8, 0#8, 0#8, 0#8, 0#8, 0#8, 0#8]]).length = L.length + 1 := by rw [List.length_append]; rfl
         have hml := mint_l1 (nx := (N : Int)) (p := [(L0.getD i default).p, 0#8, 0#8, 0#8, 0#8, 0#8, 0#8, 0#8, 0#8, 0#8, 0#8, 0#8, 0#8, 0#8, 0#8, 0#8, 0#8, 0#8, 0#8, 0#8, 0#8, 0#8, 0#8, 0#8, 0#8, 0#8, 0#8, 0#8, 0#8, 0#8, 0#8, 0#8]) (L := L) (by omega)
         have hn6 : (L ++ [mkEnt (N : Int) [(L0.getD i default).p, 0#8, 0#8, 0#8, 0#8, 0#8, 0#8, 0#8, 0#8, 0#8, 0#8, 0#8, 0#8, 0#8, 0#8, 0#8, 0#8, 0#8, 0#8, 0#8, 0#8, 0#8, 0#8, 0#8, 0#8, 0#8, 0#8, 0#8, 0#8, 0#8, 0#8, 0#8]]).length - 1 = (mintL L (N : Int) [(L0.getD i default).p, 0#8, 0#8, 0#8, 0#8, 0#8, 0#8, 0#8, 0#8, 0#8, 0#8, 0#8, 0#8, 0#8, 0#8, 0#8, 0#8, 0#8, 0#8, 0#8, 0#8, 0#8, 0#8, 0#8, 0#8, 0#8, 0#8, 0#8, 0#8, 0#8, 0#8, 0#8]).length := by omega
         refine At.to [(1, _), (2, _), (5, _), (6, _), (7, _), (8, _)] [(0, _), (2, _), (5, ⟨true, b5, 0, 40, [(key).map u8V, [iV ((N + 1 : Nat) : Int), .slice A57 (mintL L (N : Int) [(L0.getD i default).p, 0#8, 0#8, 0#8, 0#8, 0#8, 0#8, 0#8, 0#8, 0#8, 0#8, 0#8, 0#8, 0#8, 0#8, 0#8, 0#8, 0#8, 0#8, 0#8, 0#8, 0#8, 0#8, 0#8, 0#8, 0#8, 0#8, 0#8, 0#8, 0#8, 0#8, 0#8]).length c57]].flatten, 0⟩), (6, ⟨true, b6, 0, 44, [(key).map u8V, [iV ((N + 1 : Nat) : Int), .slice (cut A87 1 c87 33) (mintL L (N : Int) [(L0.getD i default).p, 0#8, 0#8, 0#8, 0#8, 0#8, 0#8, 0#8, 0#8, 0#8, 0#8, 0#8, 0#8, 0#8, 0#8, 0#8, 0#8, 0#8, 0#8, 0#8, 0#8, 0#8, 0#8, 0#8, 0#8, 0#8, 0#8, 0#8, 0#8, 0#8, 0#8, 0#8]).length (c87 - 1)]].flatten, 0⟩), (7, _), (501, ⟨true, b57, 0, 96, encs EntE (mintL L (N : Int) [(L0.getD i default).p, 0#8, 0#8, 0#8, 0#8, 0#8, 0#8, 0#8, 0#8, 0#8, 0#8, 0#8, 0#8, 0#8, 0#8, 0#8, 0#8, 0#8, 0#8, 0#8, 0#8, 0#8, 0#8, 0#8, 0#8, 0#8, 0#8, 0#8, 0#8, 0#8, 0#8, 0#8]), (c57 - ((mintL L (N : Int) [(L0.getD i default).p, 0#8, 0#8, 0#8, 0#8, 0#8, 0#8, 0#8, 0#8, 0#8, 0#8, 0#8, 0#8, 0#8, 0#8, 0#8, 0#8, 0#8, 0#8, 0#8, 0#8, 0#8, 0#8, 0#8, 0#8, 0#8, 0#8, 0#8, 0#8, 0#8, 0#8, 0#8])).length) * 33⟩), (601, ⟨true, b87, 0, 55, encs EntE (L ++ [mkEnt (N : Int) [(L0.getD i default).p, 0#8, 0#8, 0#8, 0#8, 0#8, 0#8, 0#8, 0#8, 0#8, 0#8, 0#8, 0#8, 0#8, 0#8, 0#8, 0#8, 0#8, 0#8, 0#8, 0#8, 0#8, 0#8, 0#8, 0#8, 0#8, 0#8, 0#8, 0#8, 0#8, 0#8, 0#8]]), ((c87 - ((L ++ [mkEnt (N : Int) [(L0.getD i default).p, 0#8, 0#8, 0#8, 0#8, 0#8, 0#8, 0#8, 0#8, 0#8, 0#8, 0#8, 0#8, 0#8, 0#8, 0#8, 0#8, 0#8, 0#8, 0#8, 0#8, 0#8, 0#8, 0#8, 0#8, 0#8, 0#8, 0#8, 0#8, 0#8, 0#8, 0#8]])).length) * 33)⟩)] (AllL.cons_ (rfl) (AllL.cons_ (rfl) (AllL.cons_ (rfl) (AllL.cons_ (rfl) (AllL.cons_ (rfl) (AllL.cons_ (rfl) trivial)))))) (AllL.cons_ (rfl) (AllL.cons_ (rfl) (AllL.cons_ ((by rw [z1, z2, z3]; rfl)) (AllL.cons_ ((by rw [← hn6]; rfl)) (AllL.cons_ (rfl) (AllL.cons_ ((by rw [z3]; rfl)) (AllL.cons_ (rfl) trivial))))))) ?_
         exact hKj1 _ _ ⟨(N + 1 : Nat), (mintL L (N : Int) [(L0.getD i default).p, 0#8, 0#8, 0#8, 0#8, 0#8, 0#8, 0#8, 0#8, 0#8, 0#8, 0#8, 0#8, 0#8, 0#8, 0#8, 0#8, 0#8, 0#8, 0#8, 0#8, 0#8, 0#8, 0#8, 0#8, 0#8, 0#8, 0#8, 0#8, 0#8, 0#8, 0#8]), (L ++ [mkEnt (N : Int) [(L0.getD i default).p, 0#8, 0#8, 0#8, 0#8, 0#8, 0#8, 0#8, 0#8, 0#8, 0#8, 0#8, 0#8, 0#8, 0#8, 0#8, 0#8, 0#8, 0#8, 0#8, 0#8, 0#8, 0#8, 0#8, 0#8, 0#8, 0#8, 0#8, 0#8, 0#8, 0#8, 0#8]]), 1, U, A57, b57, c57, (cut A87 1 c87 33), b87, (c87 - 1), (c87 - ((L ++ [mkEnt (N : Int) [(L0.getD i default).p, 0#8, 0#8, 0#8, 0#8, 0#8, 0#8, 0#8, 0#8, 0#8, 0#8, 0#8, 0#8, 0#8, 0#8, 0#8, 0#8, 0#8, 0#8, 0#8, 0#8, 0#8, 0#8, 0#8, 0#8, 0#8, 0#8, 0#8, 0#8, 0#8, 0#8, 0#8]])).length) * 33, rfl, rfl, (by omega), (mint_right hr (by omega) _), (mint_used hU _), g57a, (by rw [← z3]; first | assumption | omega), (fun h => cut_addr (g87a (by omega)) (by omega)), (mint_1 (nx := (N : Int)) (p := [(L0.getD i default).p, 0#8, 0#8, 0#8, 0#8, 0#8, 0#8, 0#8, 0#8, 0#8, 0#8, 0#8, 0#8, 0#8, 0#8, 0#8, 0#8, 0#8, 0#8, 0#8, 0#8, 0#8, 0#8, 0#8, 0#8, 0#8, 0#8, 0#8, 0#8, 0#8, 0#8, 0#8]) (L := L) (by omega)), (by rw [hml]; omega), (by rw [hml]; omega)⟩
        · -- cond 96 f
         have e96 : ¬ ((L ++ [mkEnt (N : Int) [(L0.getD i default).p, 0#8, 0#8, 0#8, 0#8, 0#8, 0#8, 0#8, 0#8, 0#8, 0#8, 0#8, 0#8, 0#8, 0#8, 0#8, 0#8, 0#8, 0#8, 0#8, 0#8, 0#8, 0#8, 0#8, 0#8, 0#8, 0#8, 0#8, 0#8, 0#8, 0#8, 0#8]]).length : Int) > 8 := of_decide_eq_false h96
         refine At.skip ?_
         refine At.next ?_
         refine At.region ?_
         refine At.q (some 101) (Q_loadA (k := 12) rfl rfl Try.underlying40 rfl sz40 LN rfl) ?_
         refine At.s (S_storeA none (k := 5) (vs := [(miK key (N : Int) L).map u8V, [iV (miN (N : Int) L), .slice A57 ((miL (N : Int) L [(L0.getD i default).p, 0#8, 0#8, 0#8, 0#8, 0#8, 0#8, 0#8, 0#8, 0#8, 0#8, 0#8, 0#8, 0#8, 0#8, 0#8, 0#8, 0#8, 0#8, 0#8, 0#8, 0#8, 0#8, 0#8, 0#8, 0#8, 0#8, 0#8, 0#8, 0#8, 0#8, 0#8]).length) c57]].flatten) rfl rfl rfl (by rw [sz40]; exact congrArg some LN) rfl (one_flatc (one_map (fun _ => rfl)) (one_flatc (one_cons rfl (one_cons rfl one_nil)) one_flat0)) NG rfl LN ?_)
         refine At.nil ?_
         refine At.next ?_
         refine At.swap 57 501 ?_
         refine At.swap 76 601 ?_
         have hWl : (L ++ [mkEnt (N : Int) [(L0.getD i default).p, 0#8, 0#8, 0#8, 0#8, 0#8, 0#8, 0#8, 0#8, 0#8, 0#8, 0#8, 0#8, 0#8, 0#8, 0#8, 0#8, 0#8, 0#8, 0#8, 0#8, 0#8, 0#8, 0#8, 0#8, 0#8, 0#8, 0#8, 0#8, 0#8, 0#8, 0#8]]).length = L.length + 1 := by rw [List.length_append]; rfl
         have hml := mint_l0 (nx := (N : Int)) (p := [(L0.getD i default).p, 0#8, 0#8, 0#8, 0#8, 0#8, 0#8, 0#8, 0#8, 0#8, 0#8, 0#8, 0#8, 0#8, 0#8, 0#8, 0#8, 0#8, 0#8, 0#8, 0#8, 0#8, 0#8, 0#8, 0#8, 0#8, 0#8, 0#8, 0#8, 0#8, 0#8, 0#8]) (L := L) (by omega)
         have hn6 : (L ++ [mkEnt (N : Int) [(L0.getD i default).p, 0#8, 0#8, 0#8, 0#8, 0#8, 0#8, 0#8, 0#8, 0#8, 0#8, 0#8, 0#8, 0#8, 0#8, 0#8, 0#8, 0#8, 0#8, 0#8, 0#8, 0#8, 0#8, 0#8, 0#8, 0#8, 0#8, 0#8, 0#8, 0#8, 0#8, 0#8]]).length = (mintL L (N : Int) [(L0.getD i default).p, 0#8, 0#8, 0#8, 0#8, 0#8, 0#8, 0#8, 0#8, 0#8, 0#8, 0#8, 0#8, 0#8, 0#8, 0#8, 0#8, 0#8, 0#8, 0#8, 0#8, 0#8, 0#8, 0#8, 0#8, 0#8, 0#8, 0#8, 0#8, 0#8, 0#8, 0#8]).length := by omega
         refine At.to [(1, _), (2, _), (5, _), (6, _), (7, _), (8, _)] [(0, _), (2, _), (5, ⟨true, b5, 0, 40, [(key).map u8V, [iV ((N + 1 : Nat) : Int), .slice A57 (mintL L (N : Int) [(L0.getD i default).p, 0#8, 0#8, 0#8, 0#8, 0#8, 0#8, 0#8, 0#8, 0#8, 0#8, 0#8, 0#8, 0#8, 0#8, 0#8, 0#8, 0#8, 0#8, 0#8, 0#8, 0#8, 0#8, 0#8, 0#8, 0#8, 0#8, 0#8, 0#8, 0#8, 0#8, 0#8]).length c57]].flatten, 0⟩), (6, ⟨true, b6, 0, 44, [(key).map u8V, [iV ((N + 1 : Nat) : Int), .slice A87 (mintL L (N : Int) [(L0.getD i default).p, 0#8, 0#8, 0#8, 0#8, 0#8, 0#8, 0#8, 0#8, 0#8, 0#8, 0#8, 0#8, 0#8, 0#8, 0#8, 0#8, 0#8, 0#8, 0#8, 0#8, 0#8, 0#8, 0#8, 0#8, 0#8, 0#8, 0#8, 0#8, 0#8, 0#8, 0#8]).length c87]].flatten, 0⟩), (7, _), (501, ⟨true, b57, 0, 96, encs EntE (mintL L (N : Int) [(L0.getD i default).p, 0#8, 0#8, 0#8, 0#8, 0#8, 0#8, 0#8, 0#8, 0#8, 0#8, 0#8, 0#8, 0#8, 0#8, 0#8, 0#8, 0#8, 0#8, 0#8, 0#8, 0#8, 0#8, 0#8, 0#8, 0#8, 0#8, 0#8, 0#8, 0#8, 0#8, 0#8]), (c57 - ((mintL L (N : Int) [(L0.getD i default).p, 0#8, 0#8, 0#8, 0#8, 0#8, 0#8, 0#8, 0#8, 0#8, 0#8, 0#8, 0#8, 0#8, 0#8, 0#8, 0#8, 0#8, 0#8, 0#8, 0#8, 0#8, 0#8, 0#8, 0#8, 0#8, 0#8, 0#8, 0#8, 0#8, 0#8, 0#8])).length) * 33⟩), (601, ⟨true, b87, 0, 55, encs EntE (L ++ [mkEnt (N : Int) [(L0.getD i default).p, 0#8, 0#8, 0#8, 0#8, 0#8, 0#8, 0#8, 0#8, 0#8, 0#8, 0#8, 0#8, 0#8, 0#8, 0#8, 0#8, 0#8, 0#8, 0#8, 0#8, 0#8, 0#8, 0#8, 0#8, 0#8, 0#8, 0#8, 0#8, 0#8, 0#8, 0#8]]), ((c87 - ((L ++ [mkEnt (N : Int) [(L0.getD i default).p, 0#8, 0#8, 0#8, 0#8, 0#8, 0#8, 0#8, 0#8, 0#8, 0#8, 0#8, 0#8, 0#8, 0#8, 0#8, 0#8, 0#8, 0#8, 0#8, 0#8, 0#8, 0#8, 0#8, 0#8, 0#8, 0#8, 0#8, 0#8, 0#8, 0#8, 0#8]])).length) * 33)⟩)] (AllL.cons_ (rfl) (AllL.cons_ (rfl) (AllL.cons_ (rfl) (AllL.cons_ (rfl) (AllL.cons_ (rfl) (AllL.cons_ (rfl) trivial)))))) (AllL.cons_ (rfl) (AllL.cons_ (rfl) (AllL.cons_ ((by rw [z1, z2, z3]; rfl)) (AllL.cons_ ((by rw [← hn6]; rfl)) (AllL.cons_ (rfl) (AllL.cons_ ((by rw [z3]; rfl)) (AllL.cons_ (rfl) trivial))))))) ?_
         exact hKj1 _ _ ⟨(N + 1 : Nat), (mintL L (N : Int) [(L0.getD i default).p, 0#8, 0#8, 0#8, 0#8, 0#8, 0#8, 0#8, 0#8, 0#8, 0#8, 0#8, 0#8, 0#8, 0#8, 0#8, 0#8, 0#8, 0#8, 0#8, 0#8, 0#8, 0#8, 0#8, 0#8, 0#8, 0#8, 0#8, 0#8, 0#8, 0#8, 0#8]), (L ++ [mkEnt (N : Int) [(L0.getD i default).p, 0#8, 0#8, 0#8, 0#8, 0#8, 0#8, 0#8, 0#8, 0#8, 0#8, 0#8, 0#8, 0#8, 0#8, 0#8, 0#8, 0#8, 0#8, 0#8, 0#8, 0#8, 0#8, 0#8, 0#8, 0#8, 0#8, 0#8, 0#8, 0#8, 0#8, 0#8]]), 0, U, A57, b57, c57, A87, b87, c87, (c87 - ((L ++ [mkEnt (N : Int) [(L0.getD i default).p, 0#8, 0#8, 0#8, 0#8, 0#8, 0#8, 0#8, 0#8, 0#8, 0#8, 0#8, 0#8, 0#8, 0#8, 0#8, 0#8, 0#8, 0#8, 0#8, 0#8, 0#8, 0#8, 0#8, 0#8, 0#8, 0#8, 0#8, 0#8, 0#8, 0#8, 0#8]])).length) * 33, rfl, rfl, (by omega), (mint_right hr (by omega) _), (mint_used hU _), g57a, (by rw [← z3]; first | assumption | omega), (fun h => g87a (by omega)), (mint_0 (nx := (N : Int)) (p := [(L0.getD i default).p, 0#8, 0#8, 0#8, 0#8, 0#8, 0#8, 0#8, 0#8, 0#8, 0#8, 0#8, 0#8, 0#8, 0#8, 0#8, 0#8, 0#8, 0#8, 0#8, 0#8, 0#8, 0#8, 0#8, 0#8, 0#8, 0#8, 0#8, 0#8, 0#8, 0#8, 0#8]) (L := L) (by omega)), (by rw [hml]; omega), (by rw [hml]; omega)⟩
      · -- cond 51 f
       have e51 : ¬ (k49 : Int) < 3 := of_decide_eq_false h51
       refine At.seq ?_
       obtain ⟨M, hM⟩ : ∃ M : Nat, M = N + 2 := ⟨_, rfl⟩
       refine At.draws 10 [] [.q false [0, 1, 2, 3, 4, 5, 6, 7, 8, 9]] (by kernel_rfl) (by kernel_rfl) ?_
       refine At.wq (some 102) (Q_loadA (k := 2) rfl rfl Try.underlying23 rfl sz23 LN rfl) ?_
       refine At.wp (some 103) (P_fieldAddr0 (off := 1) rfl Try.underlying47 rfl sz3 rfl rfl) ?_
       refine At.wq (some 104) (Q_loadO (k := 9) rfl rfl Try.underlying3 rfl rfl rfl) ?_
       refine At.wp (some 105) (P_conv_iw UK.u64 rfl Try.underlying3 Try.underlying49 rfl) ?_
       refine At.wp (some 106) (P_fieldAddr0 (off := 32) rfl Try.underlying44 rfl sz3 rfl rfl) ?_
       refine At.wq (some 107) (Q_loadO (k := 6) rfl rfl Try.underlying3 rfl rfl (seg_get (i := 1) (p := 0) rfl LN rfl)) ?_
       refine At.wp (some 108) (P_add_i rfl rfl rfl (by omega)) ?_
       have q108 : (((N : Int) + 2) : Int) = (M : Int) := (by omega)
       simp only [q108]
       refine At.wp (some 109) (P_conv_iw UK.u64 rfl Try.underlying3 Try.underlying49 rfl) ?_
       refine At.wp (some 110) (P_rem_w UK.u64 rfl rfl rfl (umod_nz (n := M) OG OG)) ?_
       obtain ⟨k111, hk111, hek111, hdk111⟩ := umod_n ((BitVec.ofInt 64 ((L0.getD i default).i))) (M) OG OG
       refine At.wp (some 111) (P_conv_WiE hek111 rfl Try.underlying49 Try.underlying3 rfl) ?_
       refine At.wqn ?_
       refine At.wt rfl ?_
       refine At.s (S_callV (some 112) [] [112] (vs := [_, _]) rfl en28 rfl V0 (by simp) (r_TText (key := key) (id := (k111 : Int)) LN) (by rintro _ _ ⟨A112, b112, c112, g112a, g112b, rfl, rfl⟩; rfl) ?_)
       rintro _ _ ⟨A112, b112, c112, g112a, g112b, rfl, rfl⟩
       have := tk_le key (k111 : Int)
       refine At.p (some 15) (P_assign rfl rfl) ?_
       refine At.nil ?_
       refine At.next ?_
       refine At.seqJ (fun fr H => ∃ (X : List (BitVec 8)) (A15 : Option Addr) (b15 c15 : Nat), fr = frOf [(1, .slice Ar nr c), (2, ptr b2 0), (5, ptr b5 0), (6, ptr b6 0), (7, .map (some b7)), (8, iV (i : Int)), (10, ptr b10 0), (11, iV (k49 : Int)), (15, .slice A15 X.length c15)] ∧ H = hOf [(0, ⟨false, b, q, 0, encs ActTN L0, 0⟩), (2, ⟨true, b2, 0, 23, (key).map u8V, 0⟩), (5, ⟨true, b5, 0, 40, [(key).map u8V, [iV (N : Int), .slice Ax L.length cx]].flatten, 0⟩), (6, ⟨true, b6, 0, 44, [(key).map u8V, [iV (N : Int), .slice Aw L.length cw]].flatten, 0⟩), (7, (mRow b7 U)), (9, ⟨true, b9, 0, 47, [iV ((L0.getD i default).w), iV ((L0.getD i default).i), u8V ((L0.getD i default).p)], 0⟩), (10, ⟨true, b10, 0, 44, [(key).map u8V, [iV (N : Int), .slice A44 L.length c44]].flatten, 0⟩), (44, ⟨true, b44, 0, 55, encs EntE L, (c44 - (L).length) * 33⟩), (112, ⟨true, b15, 0, 5, (X).map u8V, c15 - (X).length⟩), (501, ⟨true, bx, 0, 96, encs EntE L, (cx - (L).length) * 33⟩), (601, ⟨true, bw, 0, 55, encs EntE WL, rw⟩)] ∧ (0 < c15 → A15 = some ⟨b15, 0, none⟩) ∧ (X.length ≤ c15) ∧ (X.length = 16)) ?_ ?_
       ·
        intro Kj2 hKj2
        refine At.seq ?_
        refine At.region ?_
        refine At.p (some 113) (P_move rfl rfl) ?_
        refine At.p (some 114) (P_cmp rfl rfl rfl rfl rfl rfl) ?_
        refine At.nil ?_
        refine At.next ?_
        refine At.cond rfl (fun h114 => ?_) (fun h114 => ?_)
        · -- cond 114 t
         have e114 : (k49 : Int) = 6 := eq_of_beq h114
         have htk16 := tk_len (key := key) (id := (k111 : Int)) (by omega)
         refine At.draws 10 [] [.q false [0, 1, 2, 3, 4, 5, 6, 7, 8, 9]] (by kernel_rfl) (by kernel_rfl) ?_
         refine At.wp (some 115) (P_move rfl rfl) ?_
         refine At.wp (some 116) (P_fieldAddr0 (off := 1) rfl Try.underlying47 rfl sz3 rfl rfl) ?_
         refine At.wq (some 117) (Q_loadO (k := 9) rfl rfl Try.underlying3 rfl rfl rfl) ?_
         refine At.wp (some 118) (P_conv_iw UK.u64 rfl Try.underlying3 Try.underlying49 rfl) ?_
         refine At.wp (some 119) (P_rem_w UK.u64 (b := 16#64) rfl rfl rfl (by decide)) ?_
         obtain ⟨k120, hk120, hek120, hdk120⟩ := umod_c ((BitVec.ofInt 64 ((L0.getD i default).i))) 16#64 (by decide) (by decide)
         have hk120 : k120 < 16 := hk120
         refine At.wp (some 120) (P_conv_WiE hek120 rfl Try.underlying49 Try.underlying3 rfl) ?_
         refine At.wp (some 121) (P_indexAddr_slz (b := b112) (j := k120) rfl Try.underlying22 sz5 rfl ((fun h => g112a (by omega)) OG) rfl RO OG) ?_
         refine At.wq (some 122) (Q_loadM (k := 112) (f := u8V) (l := (tkT key (k111 : Int))) (0#8) rfl rfl Try.underlying5 rfl rfl OG) ?_
         refine At.wp (some 123) (P_fieldAddr0 (off := 2) rfl Try.underlying47 rfl sz5 rfl rfl) ?_
         refine At.wq (some 124) (Q_loadO (k := 9) rfl rfl Try.underlying5 rfl rfl rfl) ?_
         refine At.wqn ?_
         refine At.wt rfl ?_
         refine At.p (some 125) (P_xor_w UK.u8 rfl rfl rfl) ?_
         refine At.p (some 126) (P_indexAddr_slz (b := b112) (j := k120) rfl Try.underlying22 sz5 rfl ((fun h => g112a (by omega)) OG) rfl RO OG) ?_
         refine At.s (S_storeM none (f := u8V) (l := (tkT key (k111 : Int))) (u := (((tkT key (k111 : Int)).getD k120 0#8) ^^^ ((L0.getD i default).p))) (k := 112) rfl rfl rfl sz5 rfl rfl rfl OG ?_)
         refine At.nil ?_
         refine At.next ?_
         have hXs : ((tkT key (k111 : Int)).set k120 (((tkT key (k111 : Int)).getD k120 0#8) ^^^ ((L0.getD i default).p))).length = (tkT key (k111 : Int)).length := List.length_set
         refine At.to [(1, _), (2, _), (5, _), (6, _), (7, _), (8, _), (10, _), (11, _), (15, .slice A112 ((tkT key (k111 : Int)).set k120 (((tkT key (k111 : Int)).getD k120 0#8) ^^^ ((L0.getD i default).p))).length c112)] [(0, _), (2, _), (5, _), (6, _), (7, _), (9, _), (10, _), (44, _), (112, ⟨true, b112, 0, 5, (((tkT key (k111 : Int)).set k120 (((tkT key (k111 : Int)).getD k120 0#8) ^^^ ((L0.getD i default).p)))).map u8V, c112 - (((tkT key (k111 : Int)).set k120 (((tkT key (k111 : Int)).getD k120 0#8) ^^^ ((L0.getD i default).p)))).length⟩), (501, _), (601, _)] (AllL.cons_ (rfl) (AllL.cons_ (rfl) (AllL.cons_ (rfl) (AllL.cons_ (rfl) (AllL.cons_ (rfl) (AllL.cons_ (rfl) (AllL.cons_ (rfl) (AllL.cons_ (rfl) (AllL.cons_ ((by rw [List.length_set]; rfl)) trivial))))))))) (AllL.cons_ (rfl) (AllL.cons_ (rfl) (AllL.cons_ (rfl) (AllL.cons_ (rfl) (AllL.cons_ (rfl) (AllL.cons_ (rfl) (AllL.cons_ (rfl) (AllL.cons_ (rfl) (AllL.cons_ ((by rw [List.length_set]; rfl)) (AllL.cons_ (rfl) (AllL.cons_ (rfl) trivial))))))))))) ?_
         exact hKj2 _ _ ⟨((tkT key (k111 : Int)).set k120 (((tkT key (k111 : Int)).getD k120 0#8) ^^^ ((L0.getD i default).p))), A112, b112, c112, rfl, rfl, g112a, (by first | omega | (simp; done) | (simp <;> omega) | exact Nat.le_refl _), (by first | (rw [List.length_set]; exact tk_len (by omega)) | exact tk_len (by omega))⟩
        · -- cond 114 f
         have e114 : (k49 : Int) ≠ 6 := beq_eq_false_iff_ne.1 h114
         refine At.skip ?_
         refine At.next ?_
         refine At.to [(1, _), (2, _), (5, _), (6, _), (7, _), (8, _), (10, _), (11, _), (15, _)] [(0, _), (2, _), (5, _), (6, _), (7, _), (9, _), (10, _), (44, _), (112, _), (501, _), (601, _)] (AllL.cons_ (rfl) (AllL.cons_ (rfl) (AllL.cons_ (rfl) (AllL.cons_ (rfl) (AllL.cons_ (rfl) (AllL.cons_ (rfl) (AllL.cons_ (rfl) (AllL.cons_ (rfl) (AllL.cons_ (rfl) trivial))))))))) (AllL.cons_ (rfl) (AllL.cons_ (rfl) (AllL.cons_ (rfl) (AllL.cons_ (rfl) (AllL.cons_ (rfl) (AllL.cons_ (rfl) (AllL.cons_ (rfl) (AllL.cons_ (rfl) (AllL.cons_ (rfl) (AllL.cons_ (rfl) (AllL.cons_ (rfl) trivial))))))))))) ?_
         exact hKj2 _ _ ⟨tkT key (k111 : Int), A112, b112, c112, rfl, rfl, g112a, (by first | omega | (simp; done) | (simp <;> omega) | exact Nat.le_refl _), (by first | (rw [List.length_set]; exact tk_len (by omega)) | exact tk_len (by omega))⟩
       ·
        rintro fr H ⟨X, A15, b15, c15, rfl, rfl, g15a, g15b, hX⟩
        obtain ⟨hE, hS⟩ := us_ru (key := key) (tk := X) hr
        refine At.seq ?_
        refine At.region ?_
        refine At.q (some 128) (Q_loadA (k := 5) rfl rfl Try.underlying40 rfl sz40 LN rfl) ?_
        refine At.p (some 129) (P_move rfl rfl) ?_
        refine At.s (S_callV (some 130) [(501, _), (112, _)] [130] (vs := [_, _]) rfl en29 rfl (VN (by simp) rfl View.all (VN (by simp) rfl View.all V0)) (by simp) (c_Use (key := key) (next := (N : Int)) (L := L) (A := Ax) (n := L.length) (c := cx) (b := bx) (q := 0) (tk := X) (ntk := X.length) (Atk := A15) (ctk := c15) (btk := b15) (qtk := 0) LN LN (fun h => hAx (by omega)) OG LN (fun h => g15a (by omega)) OG) (by rintro _ _ ⟨A130, b130, c130, g130a, g130b, rfl, rfl⟩; rfl) ?_)
        rintro _ _ ⟨A130, b130, c130, g130a, g130b, rfl, rfl⟩
        have := usK_len (N : Int) L X (key := key) LN
        refine At.p (some 127) (P_move rfl rfl) ?_
        refine At.p (some 131) (P_extract rfl rfl rfl) ?_
        refine At.p (some 132) (P_extract rfl rfl rfl) ?_
        refine At.p (some 133) (P_extract rfl rfl rfl) ?_
        refine At.s (S_alloc (some 16) 16 (zs := [(List.replicate 32 0#8).map u8V, [iV 0, .slice none 0 0]].flatten) rfl ze40 rfl (fun b16 => ?_))
        refine At.s (S_storeA none (k := 16) (vs := [(usK key (N : Int) L X).map u8V, [iV (usN key (N : Int) L X), .slice A130 ((usL key (N : Int) L X).length) c130]].flatten) rfl rfl rfl (by rw [sz40]; exact congrArg some LN) rfl (one_flatc (one_map (fun _ => rfl)) (one_flatc (one_cons rfl (one_cons rfl one_nil)) one_flat0)) NG rfl LN ?_)
        refine At.p (some 17) (P_assign rfl rfl) ?_
        refine At.p (some 18) (P_assign rfl rfl) ?_
        refine At.nil ?_
        refine At.next ?_
        refine At.seq ?_
        refine At.region ?_
        refine At.q (some 135) (Q_loadA (k := 6) rfl rfl Try.underlying44 rfl sz44 LN rfl) ?_
        refine At.p (some 136) (P_move rfl rfl) ?_
        refine At.s (S_callV (some 137) [(601, _), (112, _)] [137] (vs := [_, _]) rfl en30 rfl (VN (by simp) rfl (viewE hWL) (VN (by simp) rfl View.all V0)) (by simp) (r_Use (key := key) (next := (N : Int)) (L := L) (A := Aw) (n := L.length) (c := cw) (b := bw) (q := (o * 33)) (tk := X) (ntk := X.length) (Atk := A15) (ctk := c15) (btk := b15) (qtk := 0) LN LN hAw OG LN (fun h => g15a (by omega)) OG OG) (by rintro _ _ ⟨A137, b137, c137, g137a, g137b, rfl, rfl⟩; rfl) ?_)
        rintro _ _ ⟨A137, b137, c137, g137a, g137b, rfl, rfl⟩
        have := ruK_len (N : Int) L X (key := key) LN
        refine At.p (some 134) (P_move rfl rfl) ?_
        refine At.p (some 138) (P_extract rfl rfl rfl) ?_
        refine At.p (some 139) (P_extract rfl rfl rfl) ?_
        refine At.p (some 140) (P_extract rfl rfl rfl) ?_
        refine At.s (S_alloc (some 19) 19 (zs := [(List.replicate 32 0#8).map u8V, [iV 0, .slice none 0 0]].flatten) rfl ze44 rfl (fun b19 => ?_))
        refine At.s (S_storeA none (k := 19) (vs := [(ruK key (N : Int) L X).map u8V, [iV (ruN key (N : Int) L X), .slice A137 ((ruL key (N : Int) L X).length) c137]].flatten) rfl rfl rfl (by rw [sz44]; exact congrArg some LN) rfl (one_flatc (one_map (fun _ => rfl)) (one_flatc (one_cons rfl (one_cons rfl one_nil)) one_flat0)) NG rfl LN ?_)
        refine At.p (some 20) (P_assign rfl rfl) ?_
        refine At.p (some 21) (P_assign rfl rfl) ?_
        refine At.nil ?_
        refine At.next ?_
        refine At.seq ?_
        refine At.seq ?_
        refine At.draws 7 [] [.q false [0, 1, 2, 3, 4, 6], .e false 5] (by kernel_rfl) (by kernel_rfl) ?_
        refine At.wp (some 141) (P_move rfl rfl) ?_
        refine At.wp (some 142) (P_move rfl rfl) ?_
        refine At.wp (some 143) (P_cmp rfl rfl rfl rfl rfl rfl) ?_
        refine At.wp (some 144) (P_move rfl rfl) ?_
        refine At.wgyq (some 145) (t := 144) rfl (bne_eq_false_iff_eq.2 hE) rfl rfl (Q_loadA (k := 5) rfl rfl Try.underlying40 rfl sz40 LN rfl) ?_
        refine At.wgyq (some 147) (t := 144) rfl (bne_eq_false_iff_eq.2 hE) rfl rfl (Q_loadA (k := 10) rfl rfl Try.underlying44 rfl sz44 LN rfl) ?_
        refine At.wqn ?_
        refine At.wey (t := 144) rfl (bne_eq_false_iff_eq.2 hE) rfl rfl ?_
        refine SStep.up (S_callV (some 146) [(501, _)] [146] (vs := [_]) rfl en25 rfl (VN (by simp) rfl View.all V0) (by simp) (c_from (key := key) (next := (N : Int)) (L := L) (A := Ax) (n := L.length) (c := cx) (b := bx) (q := 0) LN LN (fun h => hAx (by omega)) OG OG) (by rintro _ _ ⟨A146, b146, c146, g146a, g146b, rfl, rfl⟩; rfl) ?_)
        rintro _ _ ⟨A146, b146, c146, g146a, g146b, rfl, rfl⟩
        refine At.wt rfl ?_
        refine At.gy (t := 144) rfl (bne_eq_false_iff_eq.2 hE) rfl rfl ?_
        refine At.s (S_callV (some 148) [(146, _), (44, _)] [] (vs := [_, _]) rfl en27 rfl (VN (by simp) rfl View.all (VN (by simp) rfl View.all V0)) (by simp) (r_Same (keya := key) (nexta := (N : Int)) (La := L) (Aa := A146) (na := L.length) (ca := c146) (ba := b146) (qa := 0) (keyb := key) (nextb := (N : Int)) (Lb := L) (Ab := A44) (nb := L.length) (cb := c44) (bb := b44) (qb := 0) LN LN (fun h => g146a (by omega)) OG LN LN (fun h => g44a (by omega)) OG OG (by assumption) (by assumption)) (by rintro _ _ ⟨rfl, rfl⟩; rfl) ?_)
        rintro _ _ ⟨rfl, rfl⟩
        refine At.gy (t := 144) rfl (bne_eq_false_iff_eq.2 hE) rfl rfl ?_
        refine At.p (some 149) (P_not rfl rfl) ?_
        refine At.p (some 150) (P_pick_f rfl rfl (bne_eq_false_iff_eq.2 hE) rfl) ?_
        refine At.nil ?_
        refine At.next ?_
        refine At.cond rfl (fun h150 => by rw [sa_self] at h150; simp at h150) (fun h150 => ?_)
        refine At.skip ?_
        refine At.next ?_
        refine At.seq ?_
        refine At.region ?_
        refine At.p (some 151) (P_move rfl rfl) ?_
        refine At.p (some 152) (P_cmp rfl rfl rfl rfl rfl rfl) ?_
        refine At.nil ?_
        refine At.next ?_
        refine At.cond rfl (fun h152 => ?_) (fun h152 => ?_)
        · -- cond 152 t
         have e152 : (usE key (N : Int) L X) = 0 := eq_of_beq h152
         obtain ⟨y1, y2, y3, y4, y5, y6, y7, y8, y9, y10⟩ := use_ok hr hU e152
         refine At.seq ?_
         refine At.seq ?_
         refine At.region ?_
         refine At.p (some 153) (P_move rfl rfl) ?_
         refine At.p (some 154) (P_move rfl rfl) ?_
         refine At.p (some 155) (P_cmp rfl rfl rfl rfl rfl rfl) ?_
         refine At.p (some 156) (P_move rfl rfl) ?_
         refine At.gy (t := 156) rfl (bne_eq_false_iff_eq.2 (y3.trans y6.symm)) rfl rfl ?_
         refine At.p (some 157) (P_move rfl rfl) ?_
         refine At.gy (t := 156) rfl (bne_eq_false_iff_eq.2 (y3.trans y6.symm)) rfl rfl ?_
         refine At.p (some 158) (P_move rfl rfl) ?_
         refine At.gy (t := 156) rfl (bne_eq_false_iff_eq.2 (y3.trans y6.symm)) rfl rfl ?_
         refine At.q (some 159) (Q_lookup (k := 7) rfl Try.underlying45 Try.underlying3 ze4 rfl rfl rfl) ?_
         refine At.p (some 160) (P_pick_f rfl rfl (bne_eq_false_iff_eq.2 (y3.trans y6.symm)) rfl) ?_
         refine At.nil ?_
         refine At.next ?_
         refine At.cond rfl (fun h160 => by exact absurd (of_decide_eq_true h160) (by rw [y3]; exact y8)) (fun h160 => ?_)
         have e160 : ¬ (usI key (N : Int) L X) ∈ U := of_decide_eq_false h160
         refine At.skip ?_
         refine At.next ?_
         refine At.seq ?_
         refine At.region ?_
         refine At.p (some 161) (P_move rfl rfl) ?_
         refine At.p (some 162) (P_move rfl rfl) ?_
         refine At.s (S_mapUpdate none (k := 7) rfl Try.underlying45 Try.underlying3 rfl rfl rfl rfl (by rw [y3]; exact y8) ?_)
         refine At.nil ?_
         refine At.next ?_
         refine At.ord [.q (.agg ([(usK key (N : Int) L X).map u8V, [iV (usN key (N : Int) L X), .slice A130 ((usL key (N : Int) L X).length) c130]].flatten).toArray), .q (.agg ([(ruK key (N : Int) L X).map u8V, [iV (ruN key (N : Int) L X), .slice A137 ((ruL key (N : Int) L X).length) c137]].flatten).toArray), .st 5 (some b5) 40 ([(usK key (N : Int) L X).map u8V, [iV (usN key (N : Int) L X), .slice A130 ((usL key (N : Int) L X).length) c130]].flatten) 0, .st 6 (some b6) 44 ([(ruK key (N : Int) L X).map u8V, [iV (ruN key (N : Int) L X), .slice A137 ((ruL key (N : Int) L X).length) c137]].flatten) 0] [0, 1, 2, 3] (by kernel_rfl) (by kernel_rfl) (by kernel_rfl) (by kernel_rfl) (by kernel_rfl) ?_ (fun Aq => ?_)
         ·
          refine ⟨?_, ?_, ?_, ?_⟩
          ·
           intro Lq Aq fq hq Iq Rq
           exact OGoal.q rfl (OStep.weak (sl := [(16, _)]) (rw_ := [(16, _)]) (AllL.cons_ (Iq.init _ _ rfl (by kernel_rfl)) trivial) (AllL.cons_ (Iq.get0 Rq rfl (by kernel_rfl)) trivial) (QStep.o (Q_loadA (k := 16) rfl rfl Try.underlying40 rfl sz40 LN rfl)))
          ·
           intro Lq Aq fq hq Iq Rq
           exact OGoal.q rfl (OStep.weak (sl := [(19, _)]) (rw_ := [(19, _)]) (AllL.cons_ (Iq.init _ _ rfl (by kernel_rfl)) trivial) (AllL.cons_ (Iq.get0 Rq rfl (by kernel_rfl)) trivial) (QStep.o (Q_loadA (k := 19) rfl rfl Try.underlying44 rfl sz44 LN rfl)))
          ·
           intro Lq Aq fq hq Iq Rq
           exact OGoal.st rfl (S_storeA none (k := 5) (vs := [(usK key (N : Int) L X).map u8V, [iV (usN key (N : Int) L X), .slice A130 ((usL key (N : Int) L X).length) c130]].flatten) rfl (Iq.init _ _ rfl (by kernel_rfl)) (Iq.slotD Rq 0 (by kernel_rfl) rfl rfl) (by rw [sz40]; exact congrArg some LN) rfl (one_flatc (one_map (fun _ => rfl)) (one_flatc (one_cons rfl (one_cons rfl one_nil)) one_flat0)) NG (Iq.get0 Rq rfl (by kernel_rfl)) LN ⟨rfl, rfl⟩)
          ·
           intro Lq Aq fq hq Iq Rq
           exact OGoal.st rfl (S_storeA none (k := 6) (vs := [(ruK key (N : Int) L X).map u8V, [iV (ruN key (N : Int) L X), .slice A137 ((ruL key (N : Int) L X).length) c137]].flatten) rfl (Iq.init _ _ rfl (by kernel_rfl)) (Iq.slotD Rq 1 (by kernel_rfl) rfl rfl) (by rw [sz44]; exact congrArg some LN) rfl (one_flatc (one_map (fun _ => rfl)) (one_flatc (one_cons rfl (one_cons rfl one_nil)) one_flat0)) NG (Iq.get0 Rq rfl (by kernel_rfl)) LN ⟨rfl, rfl⟩)
         ·
          refine At.into (l := [(1, .slice Ar nr c), (2, ptr b2 0), (5, ptr b5 0), (6, ptr b6 0), (7, .map (some b7)), (8, iV (i : Int)), (145, .agg ([(key).map u8V, [iV (N : Int), .slice Ax L.length cx]].flatten).toArray), (146, .agg ([(key).map u8V, [iV (N : Int), .slice A146 L.length c146]].flatten).toArray), (147, .agg ([(key).map u8V, [iV (N : Int), .slice A44 L.length c44]].flatten).toArray), (148, .bool (saB key (N : Int) L key (N : Int) L)), (149, .bool (!(saB key (N : Int) L key (N : Int) L))), (157, .map (some b7)), (158, iV (usI key (N : Int) L X)), (159, .bool (decide ((usI key (N : Int) L X) ∈ U)))]) (m := [(0, ⟨false, b, q, 0, encs ActTN L0, 0⟩), (2, ⟨true, b2, 0, 23, (key).map u8V, 0⟩), (5, ⟨true, b5, 0, 40, [(usK key (N : Int) L X).map u8V, [iV (usN key (N : Int) L X), .slice A130 ((usL key (N : Int) L X).length) c130]].flatten, 0⟩), (6, ⟨true, b6, 0, 44, [(ruK key (N : Int) L X).map u8V, [iV (ruN key (N : Int) L X), .slice A137 ((ruL key (N : Int) L X).length) c137]].flatten, 0⟩), (7, (mRow b7 (U ++ [usI key (N : Int) L X]))), (44, ⟨true, b44, 0, 55, encs EntE L, (c44 - (L).length) * 33⟩), (130, ⟨true, b130, 0, 96, encs EntE (usL key (N : Int) L X), (c130 - (usL key (N : Int) L X).length) * 33⟩), (137, ⟨true, b137, 0, 55, encs EntE (ruL key (N : Int) L X), (c137 - (ruL key (N : Int) L X).length) * 33⟩), (146, ⟨true, b146, 0, 55, encs EntE L, (c146 - (L).length) * 33⟩), (501, ⟨true, bx, 0, 96, encs EntE L, (cx - (L).length) * 33⟩), (601, ⟨true, bw, 0, 55, encs EntE WL, rw⟩)]) ?_ rfl rfl
          clear Aq
          refine At.next ?_
          refine At.swap 130 501 ?_
          refine At.swap 137 601 ?_
          have g137c := g137b
          rw [y7] at g137c
          refine At.to [(1, _), (2, _), (5, _), (6, _), (7, _), (8, _)] [(0, _), (2, _), (5, ⟨true, b5, 0, 40, [(key).map u8V, [iV (N : Int), .slice A130 (usL key (N : Int) L X).length c130]].flatten, 0⟩), (6, ⟨true, b6, 0, 44, [(key).map u8V, [iV (N : Int), .slice A137 (usL key (N : Int) L X).length c137]].flatten, 0⟩), (7, (mRow b7 (U ++ [((nuI X : Nat) : Int)]))), (501, ⟨true, b130, 0, 96, encs EntE (usL key (N : Int) L X), (c130 - ((usL key (N : Int) L X)).length) * 33⟩), (601, ⟨true, b137, 0, 55, encs EntE (usL key (N : Int) L X), ((c137 - (usL key (N : Int) L X).length) * 33)⟩)] (AllL.cons_ (rfl) (AllL.cons_ (rfl) (AllL.cons_ (rfl) (AllL.cons_ (rfl) (AllL.cons_ (rfl) (AllL.cons_ (rfl) trivial)))))) (AllL.cons_ (rfl) (AllL.cons_ (rfl) (AllL.cons_ ((by rw [y1, y2]; rfl)) (AllL.cons_ ((by rw [y4, y5, y7]; rfl)) (AllL.cons_ ((by rw [y3]; rfl)) (AllL.cons_ (rfl) (AllL.cons_ ((by rw [y7]; rfl)) trivial))))))) ?_
          exact hKj1 _ _ ⟨N, (usL key (N : Int) L X), (usL key (N : Int) L X), 0, (U ++ [((nuI X : Nat) : Int)]), A130, b130, c130, A137, b137, c137, (c137 - (usL key (N : Int) L X).length) * 33, rfl, rfl, (by omega), y9, y10, g130a, (by first | assumption | omega), (fun h => g137a (by first | omega | (rw [y7] at *; omega))), (List.drop_zero), (Nat.zero_add _), (by rw [← y7]; first | assumption | omega)⟩
        · -- cond 152 f
         have e152 : (usE key (N : Int) L X) ≠ 0 := beq_eq_false_iff_ne.1 h152
         refine At.skip ?_
         refine At.next ?_
         refine At.to [(1, _), (2, _), (5, _), (6, _), (7, _), (8, _)] [(0, _), (2, _), (5, _), (6, _), (7, _), (501, _), (601, _)] (AllL.cons_ (rfl) (AllL.cons_ (rfl) (AllL.cons_ (rfl) (AllL.cons_ (rfl) (AllL.cons_ (rfl) (AllL.cons_ (rfl) trivial)))))) (AllL.cons_ (rfl) (AllL.cons_ (rfl) (AllL.cons_ (rfl) (AllL.cons_ (rfl) (AllL.cons_ (rfl) (AllL.cons_ (rfl) (AllL.cons_ (rfl) trivial))))))) ?_
         exact hKj1 _ _ ⟨N, L, WL, o, U, Ax, bx, cx, Aw, bw, cw, rw, rfl, rfl, (by omega), hr, hU, hAx, hcx, hAw, hWL, hol, hcw⟩
     ·
      rintro fr H ⟨N2, L2, WL2, o2, U2, Ax2, bx2, cx2, Aw2, bw2, cw2, rw2, rfl, rfl, hN2, hr2, hU2, hAx2, hcx2, hAw2, hWL2, hol2, hcw2⟩
      have hr82 := rt_t hr2
      have hids2 := ent_ids hr2
      refine At.seq ?_
      refine At.region ?_
      refine At.q (some 165) (Q_loadA (k := 5) rfl rfl Try.underlying40 rfl sz40 LN rfl) ?_
      refine At.s (S_callRF (some 166) [] [(501, _)] [166] 100000 (vs := [_]) rfl en31 rfl O0 (by simp) (VN (by simp) rfl View.all V0) (by simp) rfl (c_KnownF (key := key) (next := (N2 : Int)) (L := L2) (A := Ax2) (n := L2.length) (c := cx2) (b := bx2) (q := 0) hkey rfl (fun h => hAx2 (by omega)) (by omega) hr2) (by rintro _ _ ⟨_, _, _, _, _, _, _, _, _, rfl, rfl⟩; simp) ?_)
      rintro _ _ ⟨ks, Ak, bk, ck, hAk, hck, hkl, heo, hko, rfl, rfl⟩
      rw [sets_famB rfl]
      refine At.p (some 22) (P_assign rfl rfl) ?_
      refine At.nil ?_
      refine At.next ?_
      refine At.seq ?_
      refine At.seq ?_
      refine At.draws 16 [] [.q false [0, 2], .e false 1, .q false [3, 4, 5, 6, 7, 8, 9, 10, 11, 12, 13, 14, 15]] (by kernel_rfl) (by kernel_rfl) ?_
      refine At.wq (some 167) (Q_loadA (k := 5) rfl rfl Try.underlying40 rfl sz40 LN rfl) ?_
      refine At.wq (some 169) (Q_loadA (k := 6) rfl rfl Try.underlying44 rfl sz44 LN rfl) ?_
      refine At.wqn ?_
      refine At.we ?_
      refine SStep.up (S_callV (some 168) [(501, _)] [168] (vs := [_]) rfl en25 rfl (VN (by simp) rfl View.all V0) (by simp) (c_from (key := key) (next := (N2 : Int)) (L := L2) (A := Ax2) (n := L2.length) (c := cx2) (b := bx2) (q := 0) LN LN (fun h => hAx2 (by omega)) OG OG) (by rintro _ _ ⟨A168, b168, c168, g168a, g168b, rfl, rfl⟩; rfl) ?_)
      rintro _ _ ⟨A168, b168, c168, g168a, g168b, rfl, rfl⟩
      refine At.wcV (some 170) [(168, _), (601, _)] (vs := [_, _]) rfl en27 rfl (VN (by simp) rfl View.all (VN (by simp) rfl (viewE hWL2) V0)) (r_Same (keya := key) (nexta := (N2 : Int)) (La := L2) (Aa := A168) (na := L2.length) (ca := c168) (ba := b168) (qa := 0) (keyb := key) (nextb := (N2 : Int)) (Lb := L2) (Ab := Aw2) (nb := L2.length) (cb := cw2) (bb := bw2) (qb := (o2 * 33)) LN LN (fun h => g168a (by omega)) OG LN LN hAw2 OG OG (by assumption) (by assumption)) ?_
      refine At.wp (some 171) (P_not rfl rfl) ?_
      refine At.wp (some 172) (P_move rfl rfl) ?_
      refine At.wgyq (some 173) (t := 172) rfl (by rw [sa_self]; rfl) rfl rfl (Q_loadA (k := 5) rfl rfl Try.underlying40 rfl sz40 LN rfl) ?_
      refine At.wcVg (some 174) [(501, _)] (tt := 172) rfl (by rw [sa_self]; rfl) rfl rfl (vs := [_]) rfl en32 rfl (VN (by simp) rfl View.all V0) (c_TRight (key := key) (next := (N2 : Int)) (L := L2) (A := Ax2) (n := L2.length) (c := cx2) (b := bx2) (q := 0) LN LN (fun h => hAx2 (by omega)) OG) ?_
      refine At.wgy (some 175) (t := 172) rfl (by rw [sa_self]; rfl) rfl rfl (P_not rfl rfl) ?_
      refine At.wp (some 176) (P_pick_f rfl rfl (by rw [sa_self]; rfl) rfl) ?_
      refine At.wp (some 177) (P_move rfl rfl) ?_
      refine At.wgy (some 178) (t := 177) rfl (by rw [hr2]; rfl) rfl rfl (P_move rfl rfl) ?_
      refine At.wgy (some 179) (t := 177) rfl (by rw [hr2]; rfl) rfl rfl (P_len_sl rfl rfl ⟨_, Try.underlying60⟩ rfl) ?_
      refine At.wgy (some 180) (t := 177) rfl (by rw [hr2]; rfl) rfl rfl (P_fieldAddr0 (off := 33) rfl Try.underlying44 rfl sz42 rfl rfl) ?_
      refine At.wgyq (some 181) (t := 177) rfl (by rw [hr2]; rfl) rfl rfl (Q_loadO (k := 6) rfl rfl Try.underlying42 rfl rfl (seg_get (i := 1) (p := 1) rfl LN rfl)) ?_
      refine At.wgy (some 182) (t := 177) rfl (by rw [hr2]; rfl) rfl rfl (P_len_sl rfl rfl ⟨_, Try.underlying42⟩ rfl) ?_
      refine At.wqn ?_
      refine At.wt rfl ?_
      refine At.gy (t := 177) rfl (by rw [hr2]; rfl) rfl rfl ?_
      refine At.p (some 183) (P_cmp rfl rfl rfl rfl rfl rfl) ?_
      refine At.p (some 184) (P_pick_f rfl rfl (by rw [hr2]; rfl) rfl) ?_
      refine At.nil ?_
      refine At.next ?_
      refine At.cond rfl (fun h184 => by simp [hkl] at h184) (fun h184 => ?_)
      have e184 : (ks.length : Int) = (L2.length : Int) := bne_eq_false_iff_eq.1 h184
      refine At.skip ?_
      refine At.next ?_
      refine At.seq ?_
      refine At.region ?_
      refine At.p (some 23) (P_assign rfl rfl) ?_
      refine At.nil ?_
      refine At.next ?_
      refine At.block ?_
      refine At.loopx (I := fun m fr H => ∃ (k : Nat), m = ks.length - k ∧ fr = frOf [(1, .slice Ar nr c), (2, ptr b2 0), (5, ptr b5 0), (6, ptr b6 0), (7, .map (some b7)), (8, iV (i : Int)), (22, .slice Ak ks.length ck), (23, iV (k : Int))] ∧ H = famsOf (hOf [(0, ⟨false, b, q, 0, encs ActTN L0, 0⟩), (2, ⟨true, b2, 0, 23, (key).map u8V, 0⟩), (5, ⟨true, b5, 0, 40, [(key).map u8V, [iV (N2 : Int), .slice Ax2 L2.length cx2]].flatten, 0⟩), (6, ⟨true, b6, 0, 44, [(key).map u8V, [iV (N2 : Int), .slice Aw2 L2.length cw2]].flatten, 0⟩), (7, (mRow b7 U2)), (166, ⟨true, bk, 0, 64, encs KnE ks, (ck - (ks).length) * 33⟩), (501, ⟨true, bx2, 0, 96, encs EntE L2, (cx2 - (L2).length) * 33⟩), (601, ⟨true, bw2, 0, 55, encs EntE WL2, rw2⟩)]) [famB 100000 5 (ks.map Kn.tk)] ∧ (k ≤ ks.length)) ?_ ?_
      ·
       intro Kc1 hKc1
       refine At.toM [(1, _), (2, _), (5, _), (6, _), (7, _), (8, _), (22, _), (23, _)] [(0, _), (2, _), (5, _), (6, _), (7, _), (166, _), (501, _), (601, _)] [famB 100000 5 (ks.map Kn.tk)] (AllL.cons_ (rfl) (AllL.cons_ (rfl) (AllL.cons_ (rfl) (AllL.cons_ (rfl) (AllL.cons_ (rfl) (AllL.cons_ (rfl) (AllL.cons_ (rfl) (AllL.cons_ (rfl) trivial)))))))) (AllL.cons_ (rfl) (AllL.cons_ (rfl) (AllL.cons_ (rfl) (AllL.cons_ (rfl) (AllL.cons_ (rfl) (AllL.cons_ (rfl) (AllL.cons_ (rfl) (AllL.cons_ (rfl) trivial)))))))) (AllL.cons_ FK2 trivial) ?_
       exact hKc1 _ _ _ ⟨0, rfl, rfl, rfl, (by omega)⟩
      ·
       rintro m fr H ⟨k, rfl, rfl, rfl, hk⟩ Kc1 hKc1
       refine At.seq ?_
       refine At.seq ?_
       refine At.region ?_
       refine At.p (some 185) (P_move rfl rfl) ?_
       refine At.p (some 186) (P_move rfl rfl) ?_
       refine At.p (some 187) (P_len_sl rfl rfl ⟨_, Try.underlying60⟩ rfl) ?_
       refine At.p (some 188) (P_cmp rfl rfl rfl rfl rfl rfl) ?_
       refine At.nil ?_
       refine At.next ?_
       refine At.cond rfl (fun h188 => ?_) (fun h188 => ?_)
       · -- cond 188 t
        have e188 : (k : Int) < (ks.length : Int) := of_decide_eq_true h188
        refine At.skip ?_
        refine At.next ?_
        refine At.seq ?_
        refine At.block ?_
        refine At.seq ?_
        obtain ⟨hkj, hkp⟩ := hko k (by omega)
        rw [← getD_drop (k := k) hWL2] at hkj hkp
        refine At.draws 28 [] [.q false [0, 1, 2, 3, 4, 5, 6, 7, 8, 9, 10, 11, 12], .e false 13, .q false [14, 15, 16, 17, 18, 19, 20, 21, 22, 23, 24, 25, 26, 27]] (by kernel_rfl) (by kernel_rfl) ?_
        refine At.wp (some 191) (P_move rfl rfl) ?_
        refine At.wp (some 192) (P_move rfl rfl) ?_
        refine At.wp (some 193) (P_indexAddr_sl (b := bk) (m := 0) (j := k) rfl Try.underlying60 sz64 rfl ((fun h => hAk (by omega)) OG) rfl RO OG) ?_
        refine At.wp (some 194) (P_fieldAddr (off := 0) rfl Try.underlying64 rfl sz22 rfl rfl) ?_
        have enf195 := Kn.hp (ks.getD k default)
        refine At.wq (some 195) (Q_loadE1 (en := KnE) (k := 166) (j := k) (p := 0) (L := ks) (v := .slice (((ks.getD k default).tk).A) (((ks.getD k default).tk).l.length) (((ks.getD k default).tk).c)) (sz := 33) default rfl rfl rfl Try.underlying22 rfl rfl OG OG rfl) ?_
        refine At.wq (some 196) (Q_strB 100000 k (kn_tk ks k) FK2 (by rw [List.length_map]; omega) heo rfl Try.underlying22 Try.underlying5 Try.underlying9 rfl) ?_
        refine At.wq (some 197) (Q_loadA (k := 2) rfl rfl Try.underlying23 rfl sz23 LN rfl) ?_
        refine At.wp (some 198) (P_fieldAddr0 (off := 33) rfl Try.underlying44 rfl sz42 rfl rfl) ?_
        refine At.wq (some 199) (Q_loadO (k := 6) rfl rfl Try.underlying42 rfl rfl (seg_get (i := 1) (p := 1) rfl LN rfl)) ?_
        refine At.wp (some 200) (P_move rfl rfl) ?_
        refine At.wp (some 201) (P_indexAddr_sl (b := bw2) (m := (o2 * 33)) (j := k) rfl Try.underlying42 sz55 rfl (hAw2 OG) rfl RO OG) ?_
        refine At.wp (some 202) (P_fieldAddr (off := 0) rfl Try.underlying55 rfl sz3 rfl rfl) ?_
        have enf203 := Ent.hp (WL2.getD (o2 + k) default)
        refine At.wq (some 203) (Q_loadE1 (en := EntE) (k := 601) (j := (o2 + k)) (p := 0) (L := WL2) (v := iV ((WL2.getD (o2 + k) default).id)) (sz := 33) default rfl rfl rfl Try.underlying3 rfl rfl OG OG rfl) ?_
        refine At.wqn ?_
        refine At.we ?_
        refine SStep.up (S_callV (some 204) [] [204] (vs := [_, _]) rfl en28 rfl V0 (by simp) (r_TText (key := key) (id := ((WL2.getD (o2 + k) default).id)) LN) (by rintro _ _ ⟨A204, b204, c204, g204a, g204b, rfl, rfl⟩; rfl) ?_)
        rintro _ _ ⟨A204, b204, c204, g204a, g204b, rfl, rfl⟩
        have := tk_le key ((WL2.getD (o2 + k) default).id)
        refine At.wq (some 205) (Q_strA (l := (tkT key ((WL2.getD (o2 + k) default).id))) (n := ((tkT key ((WL2.getD (o2 + k) default).id)).length)) (k := 204) LN rfl Try.underlying22 Try.underlying5 Try.underlying9 rfl (fun h => g204a (by omega)) (fun _ => ⟨rfl, rfl, rfl⟩)) ?_
        refine At.wp (some 206) (P_neq_str (a := ((ks.getD k default).tk.l)) (b := (tkT key ((WL2.getD (o2 + k) default).id))) rfl rfl rfl) ?_
        refine At.wp (some 207) (P_move rfl rfl) ?_
        refine At.wgy (some 208) (t := 207) rfl (by rw [hkj]; simp) rfl rfl (P_move rfl rfl) ?_
        refine At.wgy (some 209) (t := 207) rfl (by rw [hkj]; simp) rfl rfl (P_move rfl rfl) ?_
        refine At.wgy (some 210) (t := 207) rfl (by rw [hkj]; simp) rfl rfl (P_indexAddr_sl (b := bk) (m := 0) (j := k) rfl Try.underlying60 sz64 rfl ((fun h => hAk (by omega)) OG) rfl RO OG) ?_
        refine At.wgy (some 211) (t := 207) rfl (by rw [hkj]; simp) rfl rfl (P_fieldAddr (off := 1) rfl Try.underlying64 rfl sz23 rfl rfl) ?_
        refine At.wgyq (some 212) (t := 207) rfl (by rw [hkj]; simp) rfl rfl (Q_loadEN (en := KnE) (k := 166) (j := k) (p := 1) (L := ks) (cs := ((ks.getD k default).psk).map u8V) (sz := 33) default rfl rfl rfl Try.underlying23 rfl sz23 rfl OG OG (seg_at (i := 1) rfl LN LN) LN (by decide)) ?_
        refine At.wgy (some 213) (t := 207) rfl (by rw [hkj]; simp) rfl rfl (P_fieldAddr0 (off := 33) rfl Try.underlying44 rfl sz42 rfl rfl) ?_
        refine At.wgyq (some 214) (t := 207) rfl (by rw [hkj]; simp) rfl rfl (Q_loadO (k := 6) rfl rfl Try.underlying42 rfl rfl (seg_get (i := 1) (p := 1) rfl LN rfl)) ?_
        refine At.wgy (some 215) (t := 207) rfl (by rw [hkj]; simp) rfl rfl (P_move rfl rfl) ?_
        refine At.wgy (some 216) (t := 207) rfl (by rw [hkj]; simp) rfl rfl (P_indexAddr_sl (b := bw2) (m := (o2 * 33)) (j := k) rfl Try.underlying42 sz55 rfl (hAw2 OG) rfl RO OG) ?_
        refine At.wgy (some 217) (t := 207) rfl (by rw [hkj]; simp) rfl rfl (P_fieldAddr (off := 1) rfl Try.underlying55 rfl sz23 rfl rfl) ?_
        refine At.wgyq (some 218) (t := 207) rfl (by rw [hkj]; simp) rfl rfl (Q_loadEN (en := EntE) (k := 601) (j := (o2 + k)) (p := 1) (L := WL2) (cs := ((WL2.getD (o2 + k) default).psk).map u8V) (sz := 33) default rfl rfl rfl Try.underlying23 rfl sz23 rfl OG OG (seg_at (i := 1) rfl LN LN) LN (by decide)) ?_
        refine At.wqn ?_
        refine At.wt rfl ?_
        refine At.gy (t := 207) rfl (by rw [hkj]; simp) rfl rfl ?_
        refine At.p (some 219) (P_neq_arr (k := .u8) (xs := ((ks.getD k default).psk)) (ys := ((WL2.getD (o2 + k) default).psk)) rfl Try.underlying23 Try.underlying5 sz5 Try.eqGuardType23 rfl rfl LN LN) ?_
        refine At.p (some 220) (P_pick_f rfl rfl (by rw [hkj]; simp) rfl) ?_
        refine At.nil ?_
        refine At.next ?_
        refine At.cond rfl (fun h220 => by rw [hkp] at h220; simp at h220) (fun h220 => ?_)
        have e220 : ((ks.getD k default).psk) = ((WL2.getD (o2 + k) default).psk) := bne_eq_false_iff_eq.1 h220
        refine At.skip ?_
        refine At.inb_n ?_
        refine At.next ?_
        refine At.region ?_
        refine At.p (some 189) (P_move rfl rfl) ?_
        refine At.p (some 190) (P_add_i rfl rfl rfl (by omega)) ?_
        refine At.p (some 23) (P_assign rfl rfl) ?_
        refine At.nil ?_
        refine At.next ?_
        refine At.toM [(1, _), (2, _), (5, _), (6, _), (7, _), (8, _), (22, _), (23, _)] [(0, _), (2, _), (5, _), (6, _), (7, _), (166, _), (501, _), (601, _)] [famB 100000 5 (ks.map Kn.tk)] (AllL.cons_ (rfl) (AllL.cons_ (rfl) (AllL.cons_ (rfl) (AllL.cons_ (rfl) (AllL.cons_ (rfl) (AllL.cons_ (rfl) (AllL.cons_ (rfl) (AllL.cons_ (rfl) trivial)))))))) (AllL.cons_ (rfl) (AllL.cons_ (rfl) (AllL.cons_ (rfl) (AllL.cons_ (rfl) (AllL.cons_ (rfl) (AllL.cons_ (rfl) (AllL.cons_ (rfl) (AllL.cons_ (rfl) trivial)))))))) (AllL.cons_ FK2 trivial) ?_
        exact hKc1 _ _ _ (by omega) ⟨k + 1, rfl, rfl, rfl, (by omega)⟩
       · -- cond 188 f
        have e188 : ¬ (k : Int) < (ks.length : Int) := of_decide_eq_false h188
        refine At.exit ?_
        refine At.thn_e ?_
        refine At.thn_e ?_
        refine At.inb_hit ?_
        refine At.inb_n ?_
        refine At.next ?_
        refine At.region ?_
        refine At.p (some 37) (P_move rfl rfl) ?_
        refine At.p (some 38) (P_add_i rfl rfl rfl (by omega)) ?_
        refine At.p (some 8) (P_assign rfl rfl) ?_
        refine At.nil ?_
        refine At.next ?_
        refine At.to [(1, _), (2, _), (5, _), (6, _), (7, _), (8, _)] [(0, _), (2, _), (5, _), (6, _), (7, _), (501, _), (601, _)] (AllL.cons_ (rfl) (AllL.cons_ (rfl) (AllL.cons_ (rfl) (AllL.cons_ (rfl) (AllL.cons_ (rfl) (AllL.cons_ (rfl) trivial)))))) (AllL.cons_ (rfl) (AllL.cons_ (rfl) (AllL.cons_ (rfl) (AllL.cons_ (rfl) (AllL.cons_ (rfl) (AllL.cons_ (rfl) (AllL.cons_ (rfl) trivial))))))) ?_
        exact hKc0 _ _ _ (by omega) ⟨i + 1, N2, L2, WL2, o2, U2, Ax2, bx2, cx2, Aw2, bw2, cw2, rw2, rfl, rfl, rfl, (by omega), hN2, hr2, hU2, hAx2, hcx2, hAw2, hWL2, hol2, hcw2⟩
    · -- cond 36 f
     have e36 : ¬ (i : Int) < 60 := of_decide_eq_false h36
     refine At.exit ?_
     refine At.thn_e ?_
     refine At.thn_e ?_
     refine At.inb_hit ?_
     refine At.next ?_
     refine At.seq ?_
     refine At.region ?_
     refine At.s (S_callV (some 221) [] [] (vs := []) rfl en33 rfl V0 (by simp) (c_mints  ) (by rintro _ _ ⟨rfl, rfl⟩; rfl) ?_)
     rintro _ _ ⟨rfl, rfl⟩
     refine At.p (some 4) (P_assign rfl rfl) ?_
     refine At.nil ?_
     refine At.next ?_
     refine At.ret ?_
     have hq0 : true = true := rfl
     refine At.give (.inl rfl) [] (rows' := []) (vs := [_]) rfl ⟨rfl, trivial⟩ rfl (by simp) (by simp) ⟨(by first | (rw [hq0]; try rfl; done) | (rw [← hq0]; try rfl; done) | (simp only [hq0]; try rfl; done) | (simp only [← hq0]; try rfl; done) | rfl), (by first | (rw [hq0]; try rfl; done) | (rw [← hq0]; try rfl; done) | (simp only [hq0]; try rfl; done) | (simp only [← hq0]; try rfl; done) | rfl)⟩
   ·
    have eg1 : ¬ (i : Int) < (nr : Int) := of_decide_eq_false g1
    refine At.gn (some 34) (t := 33) rfl g1 rfl rfl ?_
    refine At.gn (some 35) (t := 33) rfl g1 rfl rfl ?_
    refine At.p (some 36) (P_pick_f rfl rfl g1 rfl) ?_
    refine At.nil ?_
    refine At.next ?_
    refine At.cond rfl (fun h => absurd (h.symm.trans rfl) (by decide)) (fun _ => ?_)
    refine At.exit ?_
    refine At.thn_e ?_
    refine At.thn_e ?_
    refine At.inb_hit ?_
    refine At.next ?_
    refine At.seq ?_
    refine At.region ?_
    refine At.s (S_callV (some 221) [] [] (vs := []) rfl en33 rfl V0 (by simp) (c_mints  ) (by rintro _ _ ⟨rfl, rfl⟩; rfl) ?_)
    rintro _ _ ⟨rfl, rfl⟩
    refine At.p (some 4) (P_assign rfl rfl) ?_
    refine At.nil ?_
    refine At.next ?_
    refine At.ret ?_
    have hq0 : true = true := rfl
    refine At.give (.inl rfl) [] (rows' := []) (vs := [_]) rfl ⟨rfl, trivial⟩ rfl (by simp) (by simp) ⟨(by first | (rw [hq0]; try rfl; done) | (rw [← hq0]; try rfl; done) | (simp only [hq0]; try rfl; done) | (simp only [← hq0]; try rfl; done) | rfl), (by first | (rw [hq0]; try rfl; done) | (rw [← hq0]; try rfl; done) | (simp only [hq0]; try rfl; done) | (simp only [← hq0]; try rfl; done) | rfl)⟩


end Go.Proofs.Ytihciioopdalnaa

