import Derived.Test.YtnhjmapapbhhpaaCV2
namespace Go.Proofs.Ytnhjmapapbhhpaa
set_option maxRecDepth 20000
set_option linter.unusedVariables false
set_option linter.unusedSimpArgs false
open Go.SE Go.RowKit
attribute [local irreducible] carN zadd subC0 mulC addC subC
set_option maxHeartbeats 2000000 in
theorem c_step {bl : Nat} {x1 : List (BitVec 64)} {x2 : List (BitVec 64)} {z2 : List (BitVec 64)} {x3 : List (BitVec 64)} {z3 : List (BitVec 64)} (hx1 : x1.length = 5) (hx2 : x2.length = 5) (hz2 : z2.length = 5) (hx3 : x3.length = 5) (hz3 : z3.length = 5) (bx1 : Bnd x1) (bx2 : Bnd x2) (bz2 : Bnd z2) (bx3 : Bnd x3) (bz3 : Bnd z3) :
    Con Try.prog 14 [ptr bl 0] [⟨true, bl, 0, 38, [(x1).map u64V, (x2).map u64V, (z2).map u64V, (x3).map u64V, (z3).map u64V].flatten, 0⟩] (fun v rs => v = .tuple #[] ∧ rs = [⟨true, bl, 0, 38, [(x1).map u64V, ((stepG addC subC mulC num5 x1 ⟨x2, z2, x3, z3⟩).x2).map u64V, ((stepG addC subC mulC num5 x1 ⟨x2, z2, x3, z3⟩).z2).map u64V, ((stepG addC subC mulC num5 x1 ⟨x2, z2, x3, z3⟩).x3).map u64V, ((stepG addC subC mulC num5 x1 ⟨x2, z2, x3, z3⟩).z3).map u64V].flatten, 0⟩]) := by
  refine Con.enter Try.func14 Try.ntmps14 (Nat.le_of_ble_eq_true rfl) rfl fun w => ?_
  refine At.seq ?_
  have := addC_len x2 z2
  have := subC_len x2 z2
  refine At.ord [.q (ptr bl 0), .q (ptr bl 0), .q (ptr bl 5), .q (.agg ((x2).map u64V).toArray), .q (ptr bl 0), .q (ptr bl 0), .q (ptr bl 10), .q (.agg ((z2).map u64V).toArray), .q (.agg ((addC x2 z2).map u64V).toArray), .q (ptr bl 0), .q (ptr bl 0), .q (ptr bl 5), .q (.agg ((x2).map u64V).toArray), .q (ptr bl 0), .q (ptr bl 0), .q (ptr bl 10), .q (.agg ((z2).map u64V).toArray), .q (.agg ((subC x2 z2).map u64V).toArray), .al 2 34 ((List.replicate 5 0#64).map u64V), .al 3 34 ((List.replicate 5 0#64).map u64V), .st 2 none 34 ((addC x2 z2).map u64V) 0, .st 3 none 34 ((subC x2 z2).map u64V) 0] [0, 1, 2, 3, 4, 5, 6, 7, 8, 9, 10, 11, 12, 13, 14, 15, 16, 17, 18, 19, 20, 21] (by kernel_rfl) (by kernel_rfl) (by kernel_rfl) (by kernel_rfl) (by kernel_rfl) ?_ (fun A => ?_)
  · refine ⟨?_, ?_, ?_, ?_, ?_, ?_, ?_, ?_, ?_, ?_, ?_, ?_, ?_, ?_, ?_, ?_, ?_, ?_, ?_, ?_, ?_, ?_⟩
    · intro L A f h I R
      exact OGoal.q rfl (OStep.weak (sl := [(0, _)]) (rw_ := []) (AllL.cons_ (I.init _ _ rfl (by kernel_rfl)) trivial) trivial (PStep.o (P_move rfl rfl)))
    · intro L A f h I R
      exact OGoal.q rfl (OStep.weak (sl := [(11, _)]) (rw_ := []) (AllL.cons_ (I.slotD R 0 (by kernel_rfl) rfl rfl) trivial) trivial (PStep.o (P_nilCheck rfl rfl)))
    · intro L A f h I R
      exact OGoal.q rfl (OStep.weak (sl := [(12, _)]) (rw_ := []) (AllL.cons_ (I.slotD R 1 (by kernel_rfl) rfl rfl) trivial) trivial (PStep.o (P_fieldAddr0 (off := 5) rfl Try.underlying38 rfl sz34 rfl rfl)))
    · intro L A f h I R
      exact OGoal.q rfl (OStep.weak (sl := [(13, _)]) (rw_ := [(0, _)]) (AllL.cons_ (I.slotD R 2 (by kernel_rfl) rfl rfl) trivial) (AllL.cons_ (I.get0 R rfl (by kernel_rfl)) trivial) (QStep.o (Q_loadN (k := 0) (j := 5) (cs := (x2).map u64V) rfl rfl Try.underlying34 rfl sz34 rfl rfl rfl (seg_at (i := 1) rfl LN LN) LN)))
    · intro L A f h I R
      exact OGoal.q rfl (OStep.weak (sl := [(0, _)]) (rw_ := []) (AllL.cons_ (I.init _ _ rfl (by kernel_rfl)) trivial) trivial (PStep.o (P_move rfl rfl)))
    · intro L A f h I R
      exact OGoal.q rfl (OStep.weak (sl := [(15, _)]) (rw_ := []) (AllL.cons_ (I.slotD R 4 (by kernel_rfl) rfl rfl) trivial) trivial (PStep.o (P_nilCheck rfl rfl)))
    · intro L A f h I R
      exact OGoal.q rfl (OStep.weak (sl := [(16, _)]) (rw_ := []) (AllL.cons_ (I.slotD R 5 (by kernel_rfl) rfl rfl) trivial) trivial (PStep.o (P_fieldAddr0 (off := 10) rfl Try.underlying38 rfl sz34 rfl rfl)))
    · intro L A f h I R
      exact OGoal.q rfl (OStep.weak (sl := [(17, _)]) (rw_ := [(0, _)]) (AllL.cons_ (I.slotD R 6 (by kernel_rfl) rfl rfl) trivial) (AllL.cons_ (I.get0 R rfl (by kernel_rfl)) trivial) (QStep.o (Q_loadN (k := 0) (j := 10) (cs := (z2).map u64V) rfl rfl Try.underlying34 rfl sz34 rfl rfl rfl (seg_at (i := 2) rfl LN LN) LN)))
    · intro L A f h I R
      exact OGoal.q rfl (OStep.weak (sl := [(14, _), (18, _)]) (rw_ := []) (AllL.cons_ (I.slotD R 3 (by kernel_rfl) rfl rfl) (AllL.cons_ (I.slotD R 7 (by kernel_rfl) rfl rfl) trivial)) trivial (O_call [] (vs := [_, _]) rfl en24 rfl V0 (c_add (a := x2) (b := z2) LN LN BD BD)))
    · intro L A f h I R
      exact OGoal.q rfl (OStep.weak (sl := [(0, _)]) (rw_ := []) (AllL.cons_ (I.init _ _ rfl (by kernel_rfl)) trivial) trivial (PStep.o (P_move rfl rfl)))
    · intro L A f h I R
      exact OGoal.q rfl (OStep.weak (sl := [(20, _)]) (rw_ := []) (AllL.cons_ (I.slotD R 9 (by kernel_rfl) rfl rfl) trivial) trivial (PStep.o (P_nilCheck rfl rfl)))
    · intro L A f h I R
      exact OGoal.q rfl (OStep.weak (sl := [(21, _)]) (rw_ := []) (AllL.cons_ (I.slotD R 10 (by kernel_rfl) rfl rfl) trivial) trivial (PStep.o (P_fieldAddr0 (off := 5) rfl Try.underlying38 rfl sz34 rfl rfl)))
    · intro L A f h I R
      exact OGoal.q rfl (OStep.weak (sl := [(22, _)]) (rw_ := [(0, _)]) (AllL.cons_ (I.slotD R 11 (by kernel_rfl) rfl rfl) trivial) (AllL.cons_ (I.get0 R rfl (by kernel_rfl)) trivial) (QStep.o (Q_loadN (k := 0) (j := 5) (cs := (x2).map u64V) rfl rfl Try.underlying34 rfl sz34 rfl rfl rfl (seg_at (i := 1) rfl LN LN) LN)))
    · intro L A f h I R
      exact OGoal.q rfl (OStep.weak (sl := [(0, _)]) (rw_ := []) (AllL.cons_ (I.init _ _ rfl (by kernel_rfl)) trivial) trivial (PStep.o (P_move rfl rfl)))
    · intro L A f h I R
      exact OGoal.q rfl (OStep.weak (sl := [(24, _)]) (rw_ := []) (AllL.cons_ (I.slotD R 13 (by kernel_rfl) rfl rfl) trivial) trivial (PStep.o (P_nilCheck rfl rfl)))
    · intro L A f h I R
      exact OGoal.q rfl (OStep.weak (sl := [(25, _)]) (rw_ := []) (AllL.cons_ (I.slotD R 14 (by kernel_rfl) rfl rfl) trivial) trivial (PStep.o (P_fieldAddr0 (off := 10) rfl Try.underlying38 rfl sz34 rfl rfl)))
    · intro L A f h I R
      exact OGoal.q rfl (OStep.weak (sl := [(26, _)]) (rw_ := [(0, _)]) (AllL.cons_ (I.slotD R 15 (by kernel_rfl) rfl rfl) trivial) (AllL.cons_ (I.get0 R rfl (by kernel_rfl)) trivial) (QStep.o (Q_loadN (k := 0) (j := 10) (cs := (z2).map u64V) rfl rfl Try.underlying34 rfl sz34 rfl rfl rfl (seg_at (i := 2) rfl LN LN) LN)))
    · intro L A f h I R
      exact OGoal.q rfl (OStep.weak (sl := [(23, _), (27, _)]) (rw_ := []) (AllL.cons_ (I.slotD R 12 (by kernel_rfl) rfl rfl) (AllL.cons_ (I.slotD R 16 (by kernel_rfl) rfl rfl) trivial)) trivial (O_call [] (vs := [_, _]) rfl en25 rfl V0 (c_sub (a := x2) (b := z2) LN LN BD BD)))
    · intro L A f h I R
      exact OGoal.al rfl rfl ze34 rfl
    · intro L A f h I R
      exact OGoal.al rfl rfl ze34 rfl
    · intro L A f h I R
      exact OGoal.st rfl (S_storeA none (k := 2) (vs := (addC x2 z2).map u64V) rfl (I.slotD R 18 (by kernel_rfl) rfl rfl) (I.slotD R 8 (by kernel_rfl) rfl rfl) (by rw [sz34]; exact congrArg some LN) rfl (one_map (fun _ => rfl)) NG (I.getA R 18 (by kernel_rfl) rfl) LN ⟨rfl, rfl⟩)
    · intro L A f h I R
      exact OGoal.st rfl (S_storeA none (k := 3) (vs := (subC x2 z2).map u64V) rfl (I.slotD R 19 (by kernel_rfl) rfl rfl) (I.slotD R 17 (by kernel_rfl) rfl rfl) (by rw [sz34]; exact congrArg some LN) rfl (one_map (fun _ => rfl)) NG (I.getA R 19 (by kernel_rfl) rfl) LN ⟨rfl, rfl⟩)
  ·
    refine At.into (l := [(0, ptr bl 0), (2, ptr (A 2) 0), (3, ptr (A 3) 0)]) (m := [(0, ⟨true, bl, 0, 38, [(x1).map u64V, (x2).map u64V, (z2).map u64V, (x3).map u64V, (z3).map u64V].flatten, 0⟩), (2, ⟨true, (A 2), 0, 34, (addC x2 z2).map u64V, 0⟩), (3, ⟨true, (A 3), 0, 34, (subC x2 z2).map u64V, 0⟩)]) ?_ rfl rfl
    generalize A 2 = b2
    generalize A 3 = b3
    clear A
    refine At.next ?_
    refine At.seq ?_
    have := subC_len x3 z3
    have := mulC_len (subC x3 z3) (addC x2 z2)
    have := addC_len x3 z3
    have := mulC_len (addC x3 z3) (subC x2 z2)
    refine At.ord [.q (ptr bl 0), .q (ptr bl 0), .q (ptr bl 15), .q (.agg ((x3).map u64V).toArray), .q (ptr bl 0), .q (ptr bl 0), .q (ptr bl 20), .q (.agg ((z3).map u64V).toArray), .q (.agg ((subC x3 z3).map u64V).toArray), .q (.agg ((addC x2 z2).map u64V).toArray), .q (.agg ((mulC (subC x3 z3) (addC x2 z2)).map u64V).toArray), .q (ptr bl 0), .q (ptr bl 0), .q (ptr bl 15), .q (.agg ((x3).map u64V).toArray), .q (ptr bl 0), .q (ptr bl 0), .q (ptr bl 20), .q (.agg ((z3).map u64V).toArray), .q (.agg ((addC x3 z3).map u64V).toArray), .q (.agg ((subC x2 z2).map u64V).toArray), .q (.agg ((mulC (addC x3 z3) (subC x2 z2)).map u64V).toArray), .al 4 34 ((List.replicate 5 0#64).map u64V), .al 5 34 ((List.replicate 5 0#64).map u64V), .st 4 none 34 ((mulC (subC x3 z3) (addC x2 z2)).map u64V) 0, .st 5 none 34 ((mulC (addC x3 z3) (subC x2 z2)).map u64V) 0] [0, 1, 2, 3, 4, 5, 6, 7, 8, 9, 10, 11, 12, 13, 14, 15, 16, 17, 18, 19, 20, 21, 22, 23, 24, 25] (by kernel_rfl) (by kernel_rfl) (by kernel_rfl) (by kernel_rfl) (by kernel_rfl) ?_ (fun A => ?_)
    · refine ⟨?_, ?_, ?_, ?_, ?_, ?_, ?_, ?_, ?_, ?_, ?_, ?_, ?_, ?_, ?_, ?_, ?_, ?_, ?_, ?_, ?_, ?_, ?_, ?_, ?_, ?_⟩
      · intro L A f h I R
        exact OGoal.q rfl (OStep.weak (sl := [(0, _)]) (rw_ := []) (AllL.cons_ (I.init _ _ rfl (by kernel_rfl)) trivial) trivial (PStep.o (P_move rfl rfl)))
      · intro L A f h I R
        exact OGoal.q rfl (OStep.weak (sl := [(29, _)]) (rw_ := []) (AllL.cons_ (I.slotD R 0 (by kernel_rfl) rfl rfl) trivial) trivial (PStep.o (P_nilCheck rfl rfl)))
      · intro L A f h I R
        exact OGoal.q rfl (OStep.weak (sl := [(30, _)]) (rw_ := []) (AllL.cons_ (I.slotD R 1 (by kernel_rfl) rfl rfl) trivial) trivial (PStep.o (P_fieldAddr0 (off := 15) rfl Try.underlying38 rfl sz34 rfl rfl)))
      · intro L A f h I R
        exact OGoal.q rfl (OStep.weak (sl := [(31, _)]) (rw_ := [(0, _)]) (AllL.cons_ (I.slotD R 2 (by kernel_rfl) rfl rfl) trivial) (AllL.cons_ (I.get0 R rfl (by kernel_rfl)) trivial) (QStep.o (Q_loadN (k := 0) (j := 15) (cs := (x3).map u64V) rfl rfl Try.underlying34 rfl sz34 rfl rfl rfl (seg_at (i := 3) rfl LN LN) LN)))
      · intro L A f h I R
        exact OGoal.q rfl (OStep.weak (sl := [(0, _)]) (rw_ := []) (AllL.cons_ (I.init _ _ rfl (by kernel_rfl)) trivial) trivial (PStep.o (P_move rfl rfl)))
      · intro L A f h I R
        exact OGoal.q rfl (OStep.weak (sl := [(33, _)]) (rw_ := []) (AllL.cons_ (I.slotD R 4 (by kernel_rfl) rfl rfl) trivial) trivial (PStep.o (P_nilCheck rfl rfl)))
      · intro L A f h I R
        exact OGoal.q rfl (OStep.weak (sl := [(34, _)]) (rw_ := []) (AllL.cons_ (I.slotD R 5 (by kernel_rfl) rfl rfl) trivial) trivial (PStep.o (P_fieldAddr0 (off := 20) rfl Try.underlying38 rfl sz34 rfl rfl)))
      · intro L A f h I R
        exact OGoal.q rfl (OStep.weak (sl := [(35, _)]) (rw_ := [(0, _)]) (AllL.cons_ (I.slotD R 6 (by kernel_rfl) rfl rfl) trivial) (AllL.cons_ (I.get0 R rfl (by kernel_rfl)) trivial) (QStep.o (Q_loadN (k := 0) (j := 20) (cs := (z3).map u64V) rfl rfl Try.underlying34 rfl sz34 rfl rfl rfl (seg_at (i := 4) rfl LN LN) LN)))
      · intro L A f h I R
        exact OGoal.q rfl (OStep.weak (sl := [(32, _), (36, _)]) (rw_ := []) (AllL.cons_ (I.slotD R 3 (by kernel_rfl) rfl rfl) (AllL.cons_ (I.slotD R 7 (by kernel_rfl) rfl rfl) trivial)) trivial (O_call [] (vs := [_, _]) rfl en25 rfl V0 (c_sub (a := x3) (b := z3) LN LN BD BD)))
      · intro L A f h I R
        exact OGoal.q rfl (OStep.weak (sl := [(2, _)]) (rw_ := [(2, _)]) (AllL.cons_ (I.init _ _ rfl (by kernel_rfl)) trivial) (AllL.cons_ (I.get0 R rfl (by kernel_rfl)) trivial) (QStep.o (Q_loadA (k := 2) rfl rfl Try.underlying34 rfl sz34 LN rfl)))
      · intro L A f h I R
        exact OGoal.q rfl (OStep.weak (sl := [(37, _), (38, _)]) (rw_ := []) (AllL.cons_ (I.slotD R 8 (by kernel_rfl) rfl rfl) (AllL.cons_ (I.slotD R 9 (by kernel_rfl) rfl rfl) trivial)) trivial (O_call [] (vs := [_, _]) rfl en16 rfl V0 (c_mulC (a := (subC x3 z3)) (b := (addC x2 z2)) LN LN BD BD)))
      · intro L A f h I R
        exact OGoal.q rfl (OStep.weak (sl := [(0, _)]) (rw_ := []) (AllL.cons_ (I.init _ _ rfl (by kernel_rfl)) trivial) trivial (PStep.o (P_move rfl rfl)))
      · intro L A f h I R
        exact OGoal.q rfl (OStep.weak (sl := [(40, _)]) (rw_ := []) (AllL.cons_ (I.slotD R 11 (by kernel_rfl) rfl rfl) trivial) trivial (PStep.o (P_nilCheck rfl rfl)))
      · intro L A f h I R
        exact OGoal.q rfl (OStep.weak (sl := [(41, _)]) (rw_ := []) (AllL.cons_ (I.slotD R 12 (by kernel_rfl) rfl rfl) trivial) trivial (PStep.o (P_fieldAddr0 (off := 15) rfl Try.underlying38 rfl sz34 rfl rfl)))
      · intro L A f h I R
        exact OGoal.q rfl (OStep.weak (sl := [(42, _)]) (rw_ := [(0, _)]) (AllL.cons_ (I.slotD R 13 (by kernel_rfl) rfl rfl) trivial) (AllL.cons_ (I.get0 R rfl (by kernel_rfl)) trivial) (QStep.o (Q_loadN (k := 0) (j := 15) (cs := (x3).map u64V) rfl rfl Try.underlying34 rfl sz34 rfl rfl rfl (seg_at (i := 3) rfl LN LN) LN)))
      · intro L A f h I R
        exact OGoal.q rfl (OStep.weak (sl := [(0, _)]) (rw_ := []) (AllL.cons_ (I.init _ _ rfl (by kernel_rfl)) trivial) trivial (PStep.o (P_move rfl rfl)))
      · intro L A f h I R
        exact OGoal.q rfl (OStep.weak (sl := [(44, _)]) (rw_ := []) (AllL.cons_ (I.slotD R 15 (by kernel_rfl) rfl rfl) trivial) trivial (PStep.o (P_nilCheck rfl rfl)))
      · intro L A f h I R
        exact OGoal.q rfl (OStep.weak (sl := [(45, _)]) (rw_ := []) (AllL.cons_ (I.slotD R 16 (by kernel_rfl) rfl rfl) trivial) trivial (PStep.o (P_fieldAddr0 (off := 20) rfl Try.underlying38 rfl sz34 rfl rfl)))
      · intro L A f h I R
        exact OGoal.q rfl (OStep.weak (sl := [(46, _)]) (rw_ := [(0, _)]) (AllL.cons_ (I.slotD R 17 (by kernel_rfl) rfl rfl) trivial) (AllL.cons_ (I.get0 R rfl (by kernel_rfl)) trivial) (QStep.o (Q_loadN (k := 0) (j := 20) (cs := (z3).map u64V) rfl rfl Try.underlying34 rfl sz34 rfl rfl rfl (seg_at (i := 4) rfl LN LN) LN)))
      · intro L A f h I R
        exact OGoal.q rfl (OStep.weak (sl := [(43, _), (47, _)]) (rw_ := []) (AllL.cons_ (I.slotD R 14 (by kernel_rfl) rfl rfl) (AllL.cons_ (I.slotD R 18 (by kernel_rfl) rfl rfl) trivial)) trivial (O_call [] (vs := [_, _]) rfl en24 rfl V0 (c_add (a := x3) (b := z3) LN LN BD BD)))
      · intro L A f h I R
        exact OGoal.q rfl (OStep.weak (sl := [(3, _)]) (rw_ := [(3, _)]) (AllL.cons_ (I.init _ _ rfl (by kernel_rfl)) trivial) (AllL.cons_ (I.get0 R rfl (by kernel_rfl)) trivial) (QStep.o (Q_loadA (k := 3) rfl rfl Try.underlying34 rfl sz34 LN rfl)))
      · intro L A f h I R
        exact OGoal.q rfl (OStep.weak (sl := [(48, _), (49, _)]) (rw_ := []) (AllL.cons_ (I.slotD R 19 (by kernel_rfl) rfl rfl) (AllL.cons_ (I.slotD R 20 (by kernel_rfl) rfl rfl) trivial)) trivial (O_call [] (vs := [_, _]) rfl en16 rfl V0 (c_mulC (a := (addC x3 z3)) (b := (subC x2 z2)) LN LN BD BD)))
      · intro L A f h I R
        exact OGoal.al rfl rfl ze34 rfl
      · intro L A f h I R
        exact OGoal.al rfl rfl ze34 rfl
      · intro L A f h I R
        exact OGoal.st rfl (S_storeA none (k := 4) (vs := (mulC (subC x3 z3) (addC x2 z2)).map u64V) rfl (I.slotD R 22 (by kernel_rfl) rfl rfl) (I.slotD R 10 (by kernel_rfl) rfl rfl) (by rw [sz34]; exact congrArg some LN) rfl (one_map (fun _ => rfl)) NG (I.getA R 22 (by kernel_rfl) rfl) LN ⟨rfl, rfl⟩)
      · intro L A f h I R
        exact OGoal.st rfl (S_storeA none (k := 5) (vs := (mulC (addC x3 z3) (subC x2 z2)).map u64V) rfl (I.slotD R 23 (by kernel_rfl) rfl rfl) (I.slotD R 21 (by kernel_rfl) rfl rfl) (by rw [sz34]; exact congrArg some LN) rfl (one_map (fun _ => rfl)) NG (I.getA R 23 (by kernel_rfl) rfl) LN ⟨rfl, rfl⟩)
    ·
      refine At.into (l := [(0, ptr bl 0), (2, ptr b2 0), (3, ptr b3 0), (4, ptr (A 4) 0), (5, ptr (A 5) 0)]) (m := [(0, ⟨true, bl, 0, 38, [(x1).map u64V, (x2).map u64V, (z2).map u64V, (x3).map u64V, (z3).map u64V].flatten, 0⟩), (2, ⟨true, b2, 0, 34, (addC x2 z2).map u64V, 0⟩), (3, ⟨true, b3, 0, 34, (subC x2 z2).map u64V, 0⟩), (4, ⟨true, (A 4), 0, 34, (mulC (subC x3 z3) (addC x2 z2)).map u64V, 0⟩), (5, ⟨true, (A 5), 0, 34, (mulC (addC x3 z3) (subC x2 z2)).map u64V, 0⟩)]) ?_ rfl rfl
      generalize A 4 = b4
      generalize A 5 = b5
      clear A
      refine At.next ?_
      refine At.seq ?_
      have := mulC_len (addC x2 z2) (addC x2 z2)
      have := mulC_len (subC x2 z2) (subC x2 z2)
      refine At.ord [.q (.agg ((addC x2 z2).map u64V).toArray), .q (.agg ((addC x2 z2).map u64V).toArray), .q (.agg ((mulC (addC x2 z2) (addC x2 z2)).map u64V).toArray), .q (.agg ((subC x2 z2).map u64V).toArray), .q (.agg ((subC x2 z2).map u64V).toArray), .q (.agg ((mulC (subC x2 z2) (subC x2 z2)).map u64V).toArray), .al 6 34 ((List.replicate 5 0#64).map u64V), .al 7 34 ((List.replicate 5 0#64).map u64V), .st 6 none 34 ((mulC (addC x2 z2) (addC x2 z2)).map u64V) 0, .st 7 none 34 ((mulC (subC x2 z2) (subC x2 z2)).map u64V) 0] [0, 1, 2, 3, 4, 5, 6, 7, 8, 9] (by kernel_rfl) (by kernel_rfl) (by kernel_rfl) (by kernel_rfl) (by kernel_rfl) ?_ (fun A => ?_)
      · refine ⟨?_, ?_, ?_, ?_, ?_, ?_, ?_, ?_, ?_, ?_⟩
        · intro L A f h I R
          exact OGoal.q rfl (OStep.weak (sl := [(2, _)]) (rw_ := [(2, _)]) (AllL.cons_ (I.init _ _ rfl (by kernel_rfl)) trivial) (AllL.cons_ (I.get0 R rfl (by kernel_rfl)) trivial) (QStep.o (Q_loadA (k := 2) rfl rfl Try.underlying34 rfl sz34 LN rfl)))
        · intro L A f h I R
          exact OGoal.q rfl (OStep.weak (sl := [(2, _)]) (rw_ := [(2, _)]) (AllL.cons_ (I.init _ _ rfl (by kernel_rfl)) trivial) (AllL.cons_ (I.get0 R rfl (by kernel_rfl)) trivial) (QStep.o (Q_loadA (k := 2) rfl rfl Try.underlying34 rfl sz34 LN rfl)))
        · intro L A f h I R
          exact OGoal.q rfl (OStep.weak (sl := [(51, _), (52, _)]) (rw_ := []) (AllL.cons_ (I.slotD R 0 (by kernel_rfl) rfl rfl) (AllL.cons_ (I.slotD R 1 (by kernel_rfl) rfl rfl) trivial)) trivial (O_call [] (vs := [_, _]) rfl en16 rfl V0 (c_mulC (a := (addC x2 z2)) (b := (addC x2 z2)) LN LN BD BD)))
        · intro L A f h I R
          exact OGoal.q rfl (OStep.weak (sl := [(3, _)]) (rw_ := [(3, _)]) (AllL.cons_ (I.init _ _ rfl (by kernel_rfl)) trivial) (AllL.cons_ (I.get0 R rfl (by kernel_rfl)) trivial) (QStep.o (Q_loadA (k := 3) rfl rfl Try.underlying34 rfl sz34 LN rfl)))
        · intro L A f h I R
          exact OGoal.q rfl (OStep.weak (sl := [(3, _)]) (rw_ := [(3, _)]) (AllL.cons_ (I.init _ _ rfl (by kernel_rfl)) trivial) (AllL.cons_ (I.get0 R rfl (by kernel_rfl)) trivial) (QStep.o (Q_loadA (k := 3) rfl rfl Try.underlying34 rfl sz34 LN rfl)))
        · intro L A f h I R
          exact OGoal.q rfl (OStep.weak (sl := [(54, _), (55, _)]) (rw_ := []) (AllL.cons_ (I.slotD R 3 (by kernel_rfl) rfl rfl) (AllL.cons_ (I.slotD R 4 (by kernel_rfl) rfl rfl) trivial)) trivial (O_call [] (vs := [_, _]) rfl en16 rfl V0 (c_mulC (a := (subC x2 z2)) (b := (subC x2 z2)) LN LN BD BD)))
        · intro L A f h I R
          exact OGoal.al rfl rfl ze34 rfl
        · intro L A f h I R
          exact OGoal.al rfl rfl ze34 rfl
        · intro L A f h I R
          exact OGoal.st rfl (S_storeA none (k := 6) (vs := (mulC (addC x2 z2) (addC x2 z2)).map u64V) rfl (I.slotD R 6 (by kernel_rfl) rfl rfl) (I.slotD R 2 (by kernel_rfl) rfl rfl) (by rw [sz34]; exact congrArg some LN) rfl (one_map (fun _ => rfl)) NG (I.getA R 6 (by kernel_rfl) rfl) LN ⟨rfl, rfl⟩)
        · intro L A f h I R
          exact OGoal.st rfl (S_storeA none (k := 7) (vs := (mulC (subC x2 z2) (subC x2 z2)).map u64V) rfl (I.slotD R 7 (by kernel_rfl) rfl rfl) (I.slotD R 5 (by kernel_rfl) rfl rfl) (by rw [sz34]; exact congrArg some LN) rfl (one_map (fun _ => rfl)) NG (I.getA R 7 (by kernel_rfl) rfl) LN ⟨rfl, rfl⟩)
      ·
        refine At.into (l := [(0, ptr bl 0), (4, ptr b4 0), (5, ptr b5 0), (6, ptr (A 6) 0), (7, ptr (A 7) 0)]) (m := [(0, ⟨true, bl, 0, 38, [(x1).map u64V, (x2).map u64V, (z2).map u64V, (x3).map u64V, (z3).map u64V].flatten, 0⟩), (4, ⟨true, b4, 0, 34, (mulC (subC x3 z3) (addC x2 z2)).map u64V, 0⟩), (5, ⟨true, b5, 0, 34, (mulC (addC x3 z3) (subC x2 z2)).map u64V, 0⟩), (6, ⟨true, (A 6), 0, 34, (mulC (addC x2 z2) (addC x2 z2)).map u64V, 0⟩), (7, ⟨true, (A 7), 0, 34, (mulC (subC x2 z2) (subC x2 z2)).map u64V, 0⟩)]) ?_ rfl rfl
        generalize A 6 = b6
        generalize A 7 = b7
        clear A
        refine At.next ?_
        refine At.seq ?_
        refine At.region ?_
        refine At.q (some 57) (Q_loadA (k := 6) rfl rfl Try.underlying34 rfl sz34 LN rfl) ?_
        refine At.q (some 58) (Q_loadA (k := 7) rfl rfl Try.underlying34 rfl sz34 LN rfl) ?_
        refine At.s (S_callV (some 59) [] [] (vs := [_, _]) rfl en25 rfl V0 (by simp) (c_sub (a := (mulC (addC x2 z2) (addC x2 z2))) (b := (mulC (subC x2 z2) (subC x2 z2))) LN LN BD BD) (by rintro _ _ ⟨rfl, rfl⟩; rfl) ?_)
        rintro _ _ ⟨rfl, rfl⟩
        have := subC_len (mulC (addC x2 z2) (addC x2 z2)) (mulC (subC x2 z2) (subC x2 z2))
        refine At.s (S_alloc (some 8) 8 (zs := (List.replicate 5 0#64).map u64V) rfl ze34 rfl (fun b8 => ?_))
        refine At.s (S_storeA none (k := 8) (vs := (subC (mulC (addC x2 z2) (addC x2 z2)) (mulC (subC x2 z2) (subC x2 z2))).map u64V) rfl rfl rfl (by rw [sz34]; exact congrArg some LN) rfl (one_map (fun _ => rfl)) NG rfl LN ?_)
        refine At.nil ?_
        refine At.next ?_
        refine At.seq ?_
        have := addC_len (mulC (subC x3 z3) (addC x2 z2)) (mulC (addC x3 z3) (subC x2 z2))
        have := subC_len (mulC (subC x3 z3) (addC x2 z2)) (mulC (addC x3 z3) (subC x2 z2))
        refine At.ord [.q (.agg ((mulC (subC x3 z3) (addC x2 z2)).map u64V).toArray), .q (.agg ((mulC (addC x3 z3) (subC x2 z2)).map u64V).toArray), .q (.agg ((addC (mulC (subC x3 z3) (addC x2 z2)) (mulC (addC x3 z3) (subC x2 z2))).map u64V).toArray), .q (.agg ((mulC (subC x3 z3) (addC x2 z2)).map u64V).toArray), .q (.agg ((mulC (addC x3 z3) (subC x2 z2)).map u64V).toArray), .q (.agg ((subC (mulC (subC x3 z3) (addC x2 z2)) (mulC (addC x3 z3) (subC x2 z2))).map u64V).toArray), .al 9 34 ((List.replicate 5 0#64).map u64V), .al 10 34 ((List.replicate 5 0#64).map u64V), .st 9 none 34 ((addC (mulC (subC x3 z3) (addC x2 z2)) (mulC (addC x3 z3) (subC x2 z2))).map u64V) 0, .st 10 none 34 ((subC (mulC (subC x3 z3) (addC x2 z2)) (mulC (addC x3 z3) (subC x2 z2))).map u64V) 0] [0, 1, 2, 3, 4, 5, 6, 7, 8, 9] (by kernel_rfl) (by kernel_rfl) (by kernel_rfl) (by kernel_rfl) (by kernel_rfl) ?_ (fun A => ?_)
        · refine ⟨?_, ?_, ?_, ?_, ?_, ?_, ?_, ?_, ?_, ?_⟩
          · intro L A f h I R
            exact OGoal.q rfl (OStep.weak (sl := [(4, _)]) (rw_ := [(4, _)]) (AllL.cons_ (I.init _ _ rfl (by kernel_rfl)) trivial) (AllL.cons_ (I.get0 R rfl (by kernel_rfl)) trivial) (QStep.o (Q_loadA (k := 4) rfl rfl Try.underlying34 rfl sz34 LN rfl)))
          · intro L A f h I R
            exact OGoal.q rfl (OStep.weak (sl := [(5, _)]) (rw_ := [(5, _)]) (AllL.cons_ (I.init _ _ rfl (by kernel_rfl)) trivial) (AllL.cons_ (I.get0 R rfl (by kernel_rfl)) trivial) (QStep.o (Q_loadA (k := 5) rfl rfl Try.underlying34 rfl sz34 LN rfl)))
          · intro L A f h I R
            exact OGoal.q rfl (OStep.weak (sl := [(60, _), (61, _)]) (rw_ := []) (AllL.cons_ (I.slotD R 0 (by kernel_rfl) rfl rfl) (AllL.cons_ (I.slotD R 1 (by kernel_rfl) rfl rfl) trivial)) trivial (O_call [] (vs := [_, _]) rfl en24 rfl V0 (c_add (a := (mulC (subC x3 z3) (addC x2 z2))) (b := (mulC (addC x3 z3) (subC x2 z2))) LN LN BD BD)))
          · intro L A f h I R
            exact OGoal.q rfl (OStep.weak (sl := [(4, _)]) (rw_ := [(4, _)]) (AllL.cons_ (I.init _ _ rfl (by kernel_rfl)) trivial) (AllL.cons_ (I.get0 R rfl (by kernel_rfl)) trivial) (QStep.o (Q_loadA (k := 4) rfl rfl Try.underlying34 rfl sz34 LN rfl)))
          · intro L A f h I R
            exact OGoal.q rfl (OStep.weak (sl := [(5, _)]) (rw_ := [(5, _)]) (AllL.cons_ (I.init _ _ rfl (by kernel_rfl)) trivial) (AllL.cons_ (I.get0 R rfl (by kernel_rfl)) trivial) (QStep.o (Q_loadA (k := 5) rfl rfl Try.underlying34 rfl sz34 LN rfl)))
          · intro L A f h I R
            exact OGoal.q rfl (OStep.weak (sl := [(63, _), (64, _)]) (rw_ := []) (AllL.cons_ (I.slotD R 3 (by kernel_rfl) rfl rfl) (AllL.cons_ (I.slotD R 4 (by kernel_rfl) rfl rfl) trivial)) trivial (O_call [] (vs := [_, _]) rfl en25 rfl V0 (c_sub (a := (mulC (subC x3 z3) (addC x2 z2))) (b := (mulC (addC x3 z3) (subC x2 z2))) LN LN BD BD)))
          · intro L A f h I R
            exact OGoal.al rfl rfl ze34 rfl
          · intro L A f h I R
            exact OGoal.al rfl rfl ze34 rfl
          · intro L A f h I R
            exact OGoal.st rfl (S_storeA none (k := 9) (vs := (addC (mulC (subC x3 z3) (addC x2 z2)) (mulC (addC x3 z3) (subC x2 z2))).map u64V) rfl (I.slotD R 6 (by kernel_rfl) rfl rfl) (I.slotD R 2 (by kernel_rfl) rfl rfl) (by rw [sz34]; exact congrArg some LN) rfl (one_map (fun _ => rfl)) NG (I.getA R 6 (by kernel_rfl) rfl) LN ⟨rfl, rfl⟩)
          · intro L A f h I R
            exact OGoal.st rfl (S_storeA none (k := 10) (vs := (subC (mulC (subC x3 z3) (addC x2 z2)) (mulC (addC x3 z3) (subC x2 z2))).map u64V) rfl (I.slotD R 7 (by kernel_rfl) rfl rfl) (I.slotD R 5 (by kernel_rfl) rfl rfl) (by rw [sz34]; exact congrArg some LN) rfl (one_map (fun _ => rfl)) NG (I.getA R 7 (by kernel_rfl) rfl) LN ⟨rfl, rfl⟩)
        ·
          refine At.into (l := [(0, ptr bl 0), (6, ptr b6 0), (7, ptr b7 0), (8, ptr b8 0), (9, ptr (A 9) 0), (10, ptr (A 10) 0)]) (m := [(0, ⟨true, bl, 0, 38, [(x1).map u64V, (x2).map u64V, (z2).map u64V, (x3).map u64V, (z3).map u64V].flatten, 0⟩), (6, ⟨true, b6, 0, 34, (mulC (addC x2 z2) (addC x2 z2)).map u64V, 0⟩), (7, ⟨true, b7, 0, 34, (mulC (subC x2 z2) (subC x2 z2)).map u64V, 0⟩), (8, ⟨true, b8, 0, 34, (subC (mulC (addC x2 z2) (addC x2 z2)) (mulC (subC x2 z2) (subC x2 z2))).map u64V, 0⟩), (9, ⟨true, (A 9), 0, 34, (addC (mulC (subC x3 z3) (addC x2 z2)) (mulC (addC x3 z3) (subC x2 z2))).map u64V, 0⟩), (10, ⟨true, (A 10), 0, 34, (subC (mulC (subC x3 z3) (addC x2 z2)) (mulC (addC x3 z3) (subC x2 z2))).map u64V, 0⟩)]) ?_ rfl rfl
          generalize A 9 = b9
          generalize A 10 = b10
          clear A
          refine At.next ?_
          refine At.seq ?_
          have := mulC_len (addC (mulC (subC x3 z3) (addC x2 z2)) (mulC (addC x3 z3) (subC x2 z2))) (addC (mulC (subC x3 z3) (addC x2 z2)) (mulC (addC x3 z3) (subC x2 z2)))
          have := mulC_len (subC (mulC (subC x3 z3) (addC x2 z2)) (mulC (addC x3 z3) (subC x2 z2))) (subC (mulC (subC x3 z3) (addC x2 z2)) (mulC (addC x3 z3) (subC x2 z2)))
          have := mulC_len x1 (mulC (subC (mulC (subC x3 z3) (addC x2 z2)) (mulC (addC x3 z3) (subC x2 z2))) (subC (mulC (subC x3 z3) (addC x2 z2)) (mulC (addC x3 z3) (subC x2 z2))))
          refine At.bBruteG [15, 18] (fun fr H => fr = frOf [(0, ptr bl 0), (6, ptr b6 0), (7, ptr b7 0), (8, ptr b8 0)] ∧ H = hOf [(0, ⟨true, bl, 0, 38, [(x1).map u64V, (x2).map u64V, (z2).map u64V, (mulC (addC (mulC (subC x3 z3) (addC x2 z2)) (mulC (addC x3 z3) (subC x2 z2))) (addC (mulC (subC x3 z3) (addC x2 z2)) (mulC (addC x3 z3) (subC x2 z2)))).map u64V, (mulC x1 (mulC (subC (mulC (subC x3 z3) (addC x2 z2)) (mulC (addC x3 z3) (subC x2 z2))) (subC (mulC (subC x3 z3) (addC x2 z2)) (mulC (addC x3 z3) (subC x2 z2))))).map u64V].flatten, 0⟩), (6, ⟨true, b6, 0, 34, (mulC (addC x2 z2) (addC x2 z2)).map u64V, 0⟩), (7, ⟨true, b7, 0, 34, (mulC (subC x2 z2) (subC x2 z2)).map u64V, 0⟩), (8, ⟨true, b8, 0, 34, (subC (mulC (addC x2 z2) (addC x2 z2)) (mulC (subC x2 z2) (subC x2 z2))).map u64V, 0⟩)] ∧ True) (by kernel_rfl) ?_ ?_
          · intro Kb hKb G hGi hGo
            have hG5_0  : G 0 #[true, true, true, true, true, true, true, true, true, true, true, true, true, true, true, true, true, true, true] (frOf [(0, ptr bl 0), (6, ptr b6 0), (7, ptr b7 0), (8, ptr b8 0)]) (hOf [(0, ⟨true, bl, 0, 38, [(x1).map u64V, (x2).map u64V, (z2).map u64V, (mulC (addC (mulC (subC x3 z3) (addC x2 z2)) (mulC (addC x3 z3) (subC x2 z2))) (addC (mulC (subC x3 z3) (addC x2 z2)) (mulC (addC x3 z3) (subC x2 z2)))).map u64V, (mulC x1 (mulC (subC (mulC (subC x3 z3) (addC x2 z2)) (mulC (addC x3 z3) (subC x2 z2))) (subC (mulC (subC x3 z3) (addC x2 z2)) (mulC (addC x3 z3) (subC x2 z2))))).map u64V].flatten, 0⟩), (6, ⟨true, b6, 0, 34, (mulC (addC x2 z2) (addC x2 z2)).map u64V, 0⟩), (7, ⟨true, b7, 0, 34, (mulC (subC x2 z2) (subC x2 z2)).map u64V, 0⟩), (8, ⟨true, b8, 0, 34, (subC (mulC (addC x2 z2) (addC x2 z2)) (mulC (subC x2 z2) (subC x2 z2))).map u64V, 0⟩)]) := by
              refine hGo ?_
              refine At.bEnd (by kernel_rfl) ?_
              refine At.next ?_
              exact hKb _ _ ⟨rfl, rfl, trivial⟩
            have hG5_1  : G 1 #[true, true, true, true, true, true, true, true, true, true, true, true, true, true, true, true, true, true, false] (frOf [(0, ptr bl 0), (6, ptr b6 0), (7, ptr b7 0), (8, ptr b8 0), (78, .agg ((mulC x1 (mulC (subC (mulC (subC x3 z3) (addC x2 z2)) (mulC (addC x3 z3) (subC x2 z2))) (subC (mulC (subC x3 z3) (addC x2 z2)) (mulC (addC x3 z3) (subC x2 z2))))).map u64V).toArray), (82, ptr bl 20)]) (hOf [(0, ⟨true, bl, 0, 38, [(x1).map u64V, (x2).map u64V, (z2).map u64V, (mulC (addC (mulC (subC x3 z3) (addC x2 z2)) (mulC (addC x3 z3) (subC x2 z2))) (addC (mulC (subC x3 z3) (addC x2 z2)) (mulC (addC x3 z3) (subC x2 z2)))).map u64V, (z3).map u64V].flatten, 0⟩), (6, ⟨true, b6, 0, 34, (mulC (addC x2 z2) (addC x2 z2)).map u64V, 0⟩), (7, ⟨true, b7, 0, 34, (mulC (subC x2 z2) (subC x2 z2)).map u64V, 0⟩), (8, ⟨true, b8, 0, 34, (subC (mulC (addC x2 z2) (addC x2 z2)) (mulC (subC x2 z2) (subC x2 z2))).map u64V, 0⟩)]) := by
              refine hGo ?_
              refine At.bStep [18] (by kernel_rfl) (by simp) ?_
              refine At.bS true (by kernel_rfl) (S_storeN none (k := 0) (vs := (mulC x1 (mulC (subC (mulC (subC x3 z3) (addC x2 z2)) (mulC (addC x3 z3) (subC x2 z2))) (subC (mulC (subC x3 z3) (addC x2 z2)) (mulC (addC x3 z3) (subC x2 z2))))).map u64V) rfl rfl rfl (by rw [sz34]; exact congrArg some LN) rfl (one_map (fun _ => rfl)) NG rfl LN ?_)
              refine At.row 0 (⟨true, bl, 0, 38, [(x1).map u64V, (x2).map u64V, (z2).map u64V, (mulC (addC (mulC (subC x3 z3) (addC x2 z2)) (mulC (addC x3 z3) (subC x2 z2))) (addC (mulC (subC x3 z3) (addC x2 z2)) (mulC (addC x3 z3) (subC x2 z2)))).map u64V, (mulC x1 (mulC (subC (mulC (subC x3 z3) (addC x2 z2)) (mulC (addC x3 z3) (subC x2 z2))) (subC (mulC (subC x3 z3) (addC x2 z2)) (mulC (addC x3 z3) (subC x2 z2))))).map u64V].flatten, 0⟩) rfl (seg_set (i := 4) rfl LN LN) ?_
              exact At.into (hGi (hG5_0 )) rfl rfl
            have hG5_2  : G 4 #[true, true, true, true, true, true, true, true, true, true, true, true, true, true, true, false, false, false, false] (frOf [(0, ptr bl 0), (6, ptr b6 0), (7, ptr b7 0), (8, ptr b8 0), (67, ptr bl 0), (70, .agg ((mulC (addC (mulC (subC x3 z3) (addC x2 z2)) (mulC (addC x3 z3) (subC x2 z2))) (addC (mulC (subC x3 z3) (addC x2 z2)) (mulC (addC x3 z3) (subC x2 z2)))).map u64V).toArray), (78, .agg ((mulC x1 (mulC (subC (mulC (subC x3 z3) (addC x2 z2)) (mulC (addC x3 z3) (subC x2 z2))) (subC (mulC (subC x3 z3) (addC x2 z2)) (mulC (addC x3 z3) (subC x2 z2))))).map u64V).toArray), (80, ptr bl 15)]) (hOf [(0, ⟨true, bl, 0, 38, [(x1).map u64V, (x2).map u64V, (z2).map u64V, (x3).map u64V, (z3).map u64V].flatten, 0⟩), (6, ⟨true, b6, 0, 34, (mulC (addC x2 z2) (addC x2 z2)).map u64V, 0⟩), (7, ⟨true, b7, 0, 34, (mulC (subC x2 z2) (subC x2 z2)).map u64V, 0⟩), (8, ⟨true, b8, 0, 34, (subC (mulC (addC x2 z2) (addC x2 z2)) (mulC (subC x2 z2) (subC x2 z2))).map u64V, 0⟩)]) := by
              refine hGo ?_
              refine At.bStep [15] (by kernel_rfl) (by simp) ?_
              refine At.bS true (by kernel_rfl) (S_storeN none (k := 0) (vs := (mulC (addC (mulC (subC x3 z3) (addC x2 z2)) (mulC (addC x3 z3) (subC x2 z2))) (addC (mulC (subC x3 z3) (addC x2 z2)) (mulC (addC x3 z3) (subC x2 z2)))).map u64V) rfl rfl rfl (by rw [sz34]; exact congrArg some LN) rfl (one_map (fun _ => rfl)) NG rfl LN ?_)
              refine At.row 0 (⟨true, bl, 0, 38, [(x1).map u64V, (x2).map u64V, (z2).map u64V, (mulC (addC (mulC (subC x3 z3) (addC x2 z2)) (mulC (addC x3 z3) (subC x2 z2))) (addC (mulC (subC x3 z3) (addC x2 z2)) (mulC (addC x3 z3) (subC x2 z2)))).map u64V, (z3).map u64V].flatten, 0⟩) rfl (seg_set (i := 3) rfl LN LN) ?_
              refine At.bP  16 (some 81) (P_nilCheck rfl rfl) (by kernel_rfl) (by kernel_rfl) ?_
              refine At.bP  17 (some 82) (P_fieldAddr0 (off := 20) rfl Try.underlying38 rfl sz34 rfl rfl) (by kernel_rfl) (by kernel_rfl) ?_
              exact At.into (hGi (hG5_1 )) rfl rfl
            have hG5_3  : G 9 #[true, true, true, true, true, true, true, true, true, true, false, false, false, false, false, false, false, false, false] (frOf [(0, ptr bl 0), (6, ptr b6 0), (7, ptr b7 0), (8, ptr b8 0), (10, ptr b10 0), (66, ptr bl 0), (67, ptr bl 0), (70, .agg ((mulC (addC (mulC (subC x3 z3) (addC x2 z2)) (mulC (addC x3 z3) (subC x2 z2))) (addC (mulC (subC x3 z3) (addC x2 z2)) (mulC (addC x3 z3) (subC x2 z2)))).map u64V).toArray), (74, .agg ((x1).map u64V).toArray), (75, .agg ((subC (mulC (subC x3 z3) (addC x2 z2)) (mulC (addC x3 z3) (subC x2 z2))).map u64V).toArray)]) (hOf [(0, ⟨true, bl, 0, 38, [(x1).map u64V, (x2).map u64V, (z2).map u64V, (x3).map u64V, (z3).map u64V].flatten, 0⟩), (6, ⟨true, b6, 0, 34, (mulC (addC x2 z2) (addC x2 z2)).map u64V, 0⟩), (7, ⟨true, b7, 0, 34, (mulC (subC x2 z2) (subC x2 z2)).map u64V, 0⟩), (8, ⟨true, b8, 0, 34, (subC (mulC (addC x2 z2) (addC x2 z2)) (mulC (subC x2 z2) (subC x2 z2))).map u64V, 0⟩), (10, ⟨true, b10, 0, 34, (subC (mulC (subC x3 z3) (addC x2 z2)) (mulC (addC x3 z3) (subC x2 z2))).map u64V, 0⟩)]) := by
              refine hGo ?_
              refine At.bStep [10] (by kernel_rfl) (by simp) ?_
              refine At.bSQ (some 76) (Q_loadA (k := 10) rfl rfl Try.underlying34 rfl sz34 LN rfl) ?_
              refine At.bC  11 (some 77) [] (vs := [_, _]) (by kernel_rfl) (by kernel_rfl) rfl en16 rfl V0 (c_mulC (a := (subC (mulC (subC x3 z3) (addC x2 z2)) (mulC (addC x3 z3) (subC x2 z2)))) (b := (subC (mulC (subC x3 z3) (addC x2 z2)) (mulC (addC x3 z3) (subC x2 z2)))) LN LN BD BD) ?_
              refine At.bC  12 (some 78) [] (vs := [_, _]) (by kernel_rfl) (by kernel_rfl) rfl en16 rfl V0 (c_mulC (a := x1) (b := (mulC (subC (mulC (subC x3 z3) (addC x2 z2)) (mulC (addC x3 z3) (subC x2 z2))) (subC (mulC (subC x3 z3) (addC x2 z2)) (mulC (addC x3 z3) (subC x2 z2))))) LN LN BD BD) ?_
              refine At.bP  13 (some 79) (P_nilCheck rfl rfl) (by kernel_rfl) (by kernel_rfl) ?_
              refine At.bP  14 (some 80) (P_fieldAddr0 (off := 15) rfl Try.underlying38 rfl sz34 rfl rfl) (by kernel_rfl) (by kernel_rfl) ?_
              exact At.into (hGi (hG5_2 )) rfl rfl
            have hG5_4  : G 9 #[true, true, true, true, true, true, true, true, true, false, true, false, false, false, false, false, false, false, false] (frOf [(0, ptr bl 0), (6, ptr b6 0), (7, ptr b7 0), (8, ptr b8 0), (10, ptr b10 0), (66, ptr bl 0), (67, ptr bl 0), (70, .agg ((mulC (addC (mulC (subC x3 z3) (addC x2 z2)) (mulC (addC x3 z3) (subC x2 z2))) (addC (mulC (subC x3 z3) (addC x2 z2)) (mulC (addC x3 z3) (subC x2 z2)))).map u64V).toArray), (74, .agg ((x1).map u64V).toArray), (76, .agg ((subC (mulC (subC x3 z3) (addC x2 z2)) (mulC (addC x3 z3) (subC x2 z2))).map u64V).toArray)]) (hOf [(0, ⟨true, bl, 0, 38, [(x1).map u64V, (x2).map u64V, (z2).map u64V, (x3).map u64V, (z3).map u64V].flatten, 0⟩), (6, ⟨true, b6, 0, 34, (mulC (addC x2 z2) (addC x2 z2)).map u64V, 0⟩), (7, ⟨true, b7, 0, 34, (mulC (subC x2 z2) (subC x2 z2)).map u64V, 0⟩), (8, ⟨true, b8, 0, 34, (subC (mulC (addC x2 z2) (addC x2 z2)) (mulC (subC x2 z2) (subC x2 z2))).map u64V, 0⟩), (10, ⟨true, b10, 0, 34, (subC (mulC (subC x3 z3) (addC x2 z2)) (mulC (addC x3 z3) (subC x2 z2))).map u64V, 0⟩)]) := by
              refine hGo ?_
              refine At.bStep [9] (by kernel_rfl) (by simp) ?_
              refine At.bSQ (some 75) (Q_loadA (k := 10) rfl rfl Try.underlying34 rfl sz34 LN rfl) ?_
              refine At.bC  11 (some 77) [] (vs := [_, _]) (by kernel_rfl) (by kernel_rfl) rfl en16 rfl V0 (c_mulC (a := (subC (mulC (subC x3 z3) (addC x2 z2)) (mulC (addC x3 z3) (subC x2 z2)))) (b := (subC (mulC (subC x3 z3) (addC x2 z2)) (mulC (addC x3 z3) (subC x2 z2)))) LN LN BD BD) ?_
              refine At.bC  12 (some 78) [] (vs := [_, _]) (by kernel_rfl) (by kernel_rfl) rfl en16 rfl V0 (c_mulC (a := x1) (b := (mulC (subC (mulC (subC x3 z3) (addC x2 z2)) (mulC (addC x3 z3) (subC x2 z2))) (subC (mulC (subC x3 z3) (addC x2 z2)) (mulC (addC x3 z3) (subC x2 z2))))) LN LN BD BD) ?_
              refine At.bP  13 (some 79) (P_nilCheck rfl rfl) (by kernel_rfl) (by kernel_rfl) ?_
              refine At.bP  14 (some 80) (P_fieldAddr0 (off := 15) rfl Try.underlying38 rfl sz34 rfl rfl) (by kernel_rfl) (by kernel_rfl) ?_
              exact At.into (hGi (hG5_2 )) rfl rfl
            have hG5_5  : G 10 #[true, true, true, true, true, true, true, true, true, false, false, false, false, false, false, false, false, false, false] (frOf [(0, ptr bl 0), (6, ptr b6 0), (7, ptr b7 0), (8, ptr b8 0), (10, ptr b10 0), (66, ptr bl 0), (67, ptr bl 0), (70, .agg ((mulC (addC (mulC (subC x3 z3) (addC x2 z2)) (mulC (addC x3 z3) (subC x2 z2))) (addC (mulC (subC x3 z3) (addC x2 z2)) (mulC (addC x3 z3) (subC x2 z2)))).map u64V).toArray), (74, .agg ((x1).map u64V).toArray)]) (hOf [(0, ⟨true, bl, 0, 38, [(x1).map u64V, (x2).map u64V, (z2).map u64V, (x3).map u64V, (z3).map u64V].flatten, 0⟩), (6, ⟨true, b6, 0, 34, (mulC (addC x2 z2) (addC x2 z2)).map u64V, 0⟩), (7, ⟨true, b7, 0, 34, (mulC (subC x2 z2) (subC x2 z2)).map u64V, 0⟩), (8, ⟨true, b8, 0, 34, (subC (mulC (addC x2 z2) (addC x2 z2)) (mulC (subC x2 z2) (subC x2 z2))).map u64V, 0⟩), (10, ⟨true, b10, 0, 34, (subC (mulC (subC x3 z3) (addC x2 z2)) (mulC (addC x3 z3) (subC x2 z2))).map u64V, 0⟩)]) := by
              refine hGo ?_
              refine At.bStep [9, 10] (by kernel_rfl) (by simp) ?_
              refine ⟨?_, ?_⟩
              ·
                refine At.bSQ (some 75) (Q_loadA (k := 10) rfl rfl Try.underlying34 rfl sz34 LN rfl) ?_
                exact At.into (hGi (hG5_3 )) rfl rfl
              ·
                refine At.bSQ (some 76) (Q_loadA (k := 10) rfl rfl Try.underlying34 rfl sz34 LN rfl) ?_
                exact At.into (hGi (hG5_4 )) rfl rfl
            refine hGo ?_
            refine At.bP  0 (some 66) (P_move rfl rfl) (by kernel_rfl) (by kernel_rfl) ?_
            refine At.bP  1 (some 67) (P_move rfl rfl) (by kernel_rfl) (by kernel_rfl) ?_
            refine At.bQ  2 (some 68) (Q_loadA (k := 9) rfl rfl Try.underlying34 rfl sz34 LN rfl) (by kernel_rfl) (by kernel_rfl) ?_
            refine At.bQ  3 (some 69) (Q_loadA (k := 9) rfl rfl Try.underlying34 rfl sz34 LN rfl) (by kernel_rfl) (by kernel_rfl) ?_
            refine At.bC  4 (some 70) [] (vs := [_, _]) (by kernel_rfl) (by kernel_rfl) rfl en16 rfl V0 (c_mulC (a := (addC (mulC (subC x3 z3) (addC x2 z2)) (mulC (addC x3 z3) (subC x2 z2)))) (b := (addC (mulC (subC x3 z3) (addC x2 z2)) (mulC (addC x3 z3) (subC x2 z2)))) LN LN BD BD) ?_
            refine At.bP  5 (some 71) (P_move rfl rfl) (by kernel_rfl) (by kernel_rfl) ?_
            refine At.bP  6 (some 72) (P_nilCheck rfl rfl) (by kernel_rfl) (by kernel_rfl) ?_
            refine At.bP  7 (some 73) (P_fieldAddr0 (off := 0) rfl Try.underlying38 rfl sz34 rfl rfl) (by kernel_rfl) (by kernel_rfl) ?_
            refine At.bQ  8 (some 74) (Q_loadN (k := 0) (j := 0) (cs := (x1).map u64V) rfl rfl Try.underlying34 rfl sz34 rfl rfl rfl (seg_at (i := 0) rfl LN LN) LN) (by kernel_rfl) (by kernel_rfl) ?_
            exact At.into (hGi (hG5_5 )) rfl rfl
          · rintro fr H ⟨rfl, rfl, -⟩
            refine At.next ?_
            have := mulC_len (mulC (addC x2 z2) (addC x2 z2)) (mulC (subC x2 z2) (subC x2 z2))
            have := mulC_len [121665#64, 0#64, 0#64, 0#64, 0#64] (subC (mulC (addC x2 z2) (addC x2 z2)) (mulC (subC x2 z2) (subC x2 z2)))
            have := addC_len (mulC (addC x2 z2) (addC x2 z2)) (mulC [121665#64, 0#64, 0#64, 0#64, 0#64] (subC (mulC (addC x2 z2) (addC x2 z2)) (mulC (subC x2 z2) (subC x2 z2))))
            have := mulC_len (subC (mulC (addC x2 z2) (addC x2 z2)) (mulC (subC x2 z2) (subC x2 z2))) (addC (mulC (addC x2 z2) (addC x2 z2)) (mulC [121665#64, 0#64, 0#64, 0#64, 0#64] (subC (mulC (addC x2 z2) (addC x2 z2)) (mulC (subC x2 z2) (subC x2 z2)))))
            refine At.bBruteG [14, 17] (fun fr H => fr = frOf [] ∧ H = hOf [(0, ⟨true, bl, 0, 38, [(x1).map u64V, (mulC (mulC (addC x2 z2) (addC x2 z2)) (mulC (subC x2 z2) (subC x2 z2))).map u64V, (mulC (subC (mulC (addC x2 z2) (addC x2 z2)) (mulC (subC x2 z2) (subC x2 z2))) (addC (mulC (addC x2 z2) (addC x2 z2)) (mulC [121665#64, 0#64, 0#64, 0#64, 0#64] (subC (mulC (addC x2 z2) (addC x2 z2)) (mulC (subC x2 z2) (subC x2 z2)))))).map u64V, (mulC (addC (mulC (subC x3 z3) (addC x2 z2)) (mulC (addC x3 z3) (subC x2 z2))) (addC (mulC (subC x3 z3) (addC x2 z2)) (mulC (addC x3 z3) (subC x2 z2)))).map u64V, (mulC x1 (mulC (subC (mulC (subC x3 z3) (addC x2 z2)) (mulC (addC x3 z3) (subC x2 z2))) (subC (mulC (subC x3 z3) (addC x2 z2)) (mulC (addC x3 z3) (subC x2 z2))))).map u64V].flatten, 0⟩)] ∧ True) (by kernel_rfl) ?_ ?_
            · intro Kb hKb G hGi hGo
              have hG6_0  : G 0 #[true, true, true, true, true, true, true, true, true, true, true, true, true, true, true, true, true, true] (frOf []) (hOf [(0, ⟨true, bl, 0, 38, [(x1).map u64V, (mulC (mulC (addC x2 z2) (addC x2 z2)) (mulC (subC x2 z2) (subC x2 z2))).map u64V, (mulC (subC (mulC (addC x2 z2) (addC x2 z2)) (mulC (subC x2 z2) (subC x2 z2))) (addC (mulC (addC x2 z2) (addC x2 z2)) (mulC [121665#64, 0#64, 0#64, 0#64, 0#64] (subC (mulC (addC x2 z2) (addC x2 z2)) (mulC (subC x2 z2) (subC x2 z2)))))).map u64V, (mulC (addC (mulC (subC x3 z3) (addC x2 z2)) (mulC (addC x3 z3) (subC x2 z2))) (addC (mulC (subC x3 z3) (addC x2 z2)) (mulC (addC x3 z3) (subC x2 z2)))).map u64V, (mulC x1 (mulC (subC (mulC (subC x3 z3) (addC x2 z2)) (mulC (addC x3 z3) (subC x2 z2))) (subC (mulC (subC x3 z3) (addC x2 z2)) (mulC (addC x3 z3) (subC x2 z2))))).map u64V].flatten, 0⟩)]) := by
                refine hGo ?_
                refine At.bEnd (by kernel_rfl) ?_
                refine At.next ?_
                exact hKb _ _ ⟨rfl, rfl, trivial⟩
              have hG6_1  : G 1 #[true, true, true, true, true, true, true, true, true, true, true, true, true, true, true, true, true, false] (frOf [(94, .agg ((mulC (subC (mulC (addC x2 z2) (addC x2 z2)) (mulC (subC x2 z2) (subC x2 z2))) (addC (mulC (addC x2 z2) (addC x2 z2)) (mulC [121665#64, 0#64, 0#64, 0#64, 0#64] (subC (mulC (addC x2 z2) (addC x2 z2)) (mulC (subC x2 z2) (subC x2 z2)))))).map u64V).toArray), (98, ptr bl 10)]) (hOf [(0, ⟨true, bl, 0, 38, [(x1).map u64V, (mulC (mulC (addC x2 z2) (addC x2 z2)) (mulC (subC x2 z2) (subC x2 z2))).map u64V, (z2).map u64V, (mulC (addC (mulC (subC x3 z3) (addC x2 z2)) (mulC (addC x3 z3) (subC x2 z2))) (addC (mulC (subC x3 z3) (addC x2 z2)) (mulC (addC x3 z3) (subC x2 z2)))).map u64V, (mulC x1 (mulC (subC (mulC (subC x3 z3) (addC x2 z2)) (mulC (addC x3 z3) (subC x2 z2))) (subC (mulC (subC x3 z3) (addC x2 z2)) (mulC (addC x3 z3) (subC x2 z2))))).map u64V].flatten, 0⟩)]) := by
                refine hGo ?_
                refine At.bStep [17] (by kernel_rfl) (by simp) ?_
                refine At.bS true (by kernel_rfl) (S_storeN none (k := 0) (vs := (mulC (subC (mulC (addC x2 z2) (addC x2 z2)) (mulC (subC x2 z2) (subC x2 z2))) (addC (mulC (addC x2 z2) (addC x2 z2)) (mulC [121665#64, 0#64, 0#64, 0#64, 0#64] (subC (mulC (addC x2 z2) (addC x2 z2)) (mulC (subC x2 z2) (subC x2 z2)))))).map u64V) rfl rfl rfl (by rw [sz34]; exact congrArg some LN) rfl (one_map (fun _ => rfl)) NG rfl LN ?_)
                refine At.row 0 (⟨true, bl, 0, 38, [(x1).map u64V, (mulC (mulC (addC x2 z2) (addC x2 z2)) (mulC (subC x2 z2) (subC x2 z2))).map u64V, (mulC (subC (mulC (addC x2 z2) (addC x2 z2)) (mulC (subC x2 z2) (subC x2 z2))) (addC (mulC (addC x2 z2) (addC x2 z2)) (mulC [121665#64, 0#64, 0#64, 0#64, 0#64] (subC (mulC (addC x2 z2) (addC x2 z2)) (mulC (subC x2 z2) (subC x2 z2)))))).map u64V, (mulC (addC (mulC (subC x3 z3) (addC x2 z2)) (mulC (addC x3 z3) (subC x2 z2))) (addC (mulC (subC x3 z3) (addC x2 z2)) (mulC (addC x3 z3) (subC x2 z2)))).map u64V, (mulC x1 (mulC (subC (mulC (subC x3 z3) (addC x2 z2)) (mulC (addC x3 z3) (subC x2 z2))) (subC (mulC (subC x3 z3) (addC x2 z2)) (mulC (addC x3 z3) (subC x2 z2))))).map u64V].flatten, 0⟩) rfl (seg_set (i := 2) rfl LN LN) ?_
                exact At.into (hGi (hG6_0 )) rfl rfl
              have hG6_2  : G 4 #[true, true, true, true, true, true, true, true, true, true, true, true, true, true, false, false, false, false] (frOf [(84, ptr bl 0), (87, .agg ((mulC (mulC (addC x2 z2) (addC x2 z2)) (mulC (subC x2 z2) (subC x2 z2))).map u64V).toArray), (94, .agg ((mulC (subC (mulC (addC x2 z2) (addC x2 z2)) (mulC (subC x2 z2) (subC x2 z2))) (addC (mulC (addC x2 z2) (addC x2 z2)) (mulC [121665#64, 0#64, 0#64, 0#64, 0#64] (subC (mulC (addC x2 z2) (addC x2 z2)) (mulC (subC x2 z2) (subC x2 z2)))))).map u64V).toArray), (96, ptr bl 5)]) (hOf [(0, ⟨true, bl, 0, 38, [(x1).map u64V, (x2).map u64V, (z2).map u64V, (mulC (addC (mulC (subC x3 z3) (addC x2 z2)) (mulC (addC x3 z3) (subC x2 z2))) (addC (mulC (subC x3 z3) (addC x2 z2)) (mulC (addC x3 z3) (subC x2 z2)))).map u64V, (mulC x1 (mulC (subC (mulC (subC x3 z3) (addC x2 z2)) (mulC (addC x3 z3) (subC x2 z2))) (subC (mulC (subC x3 z3) (addC x2 z2)) (mulC (addC x3 z3) (subC x2 z2))))).map u64V].flatten, 0⟩)]) := by
                refine hGo ?_
                refine At.bStep [14] (by kernel_rfl) (by simp) ?_
                refine At.bS true (by kernel_rfl) (S_storeN none (k := 0) (vs := (mulC (mulC (addC x2 z2) (addC x2 z2)) (mulC (subC x2 z2) (subC x2 z2))).map u64V) rfl rfl rfl (by rw [sz34]; exact congrArg some LN) rfl (one_map (fun _ => rfl)) NG rfl LN ?_)
                refine At.row 0 (⟨true, bl, 0, 38, [(x1).map u64V, (mulC (mulC (addC x2 z2) (addC x2 z2)) (mulC (subC x2 z2) (subC x2 z2))).map u64V, (z2).map u64V, (mulC (addC (mulC (subC x3 z3) (addC x2 z2)) (mulC (addC x3 z3) (subC x2 z2))) (addC (mulC (subC x3 z3) (addC x2 z2)) (mulC (addC x3 z3) (subC x2 z2)))).map u64V, (mulC x1 (mulC (subC (mulC (subC x3 z3) (addC x2 z2)) (mulC (addC x3 z3) (subC x2 z2))) (subC (mulC (subC x3 z3) (addC x2 z2)) (mulC (addC x3 z3) (subC x2 z2))))).map u64V].flatten, 0⟩) rfl (seg_set (i := 1) rfl LN LN) ?_
                refine At.bP  15 (some 97) (P_nilCheck rfl rfl) (by kernel_rfl) (by kernel_rfl) ?_
                refine At.bP  16 (some 98) (P_fieldAddr0 (off := 10) rfl Try.underlying38 rfl sz34 rfl rfl) (by kernel_rfl) (by kernel_rfl) ?_
                exact At.into (hGi (hG6_1 )) rfl rfl
              have hG6_3  : G 8 #[true, true, true, true, true, false, true, true, true, true, true, false, false, false, false, false, false, false] (frOf [(8, ptr b8 0), (83, ptr bl 0), (84, ptr bl 0), (87, .agg ((mulC (mulC (addC x2 z2) (addC x2 z2)) (mulC (subC x2 z2) (subC x2 z2))).map u64V).toArray), (93, .agg ((addC (mulC (addC x2 z2) (addC x2 z2)) (mulC [121665#64, 0#64, 0#64, 0#64, 0#64] (subC (mulC (addC x2 z2) (addC x2 z2)) (mulC (subC x2 z2) (subC x2 z2))))).map u64V).toArray)]) (hOf [(0, ⟨true, bl, 0, 38, [(x1).map u64V, (x2).map u64V, (z2).map u64V, (mulC (addC (mulC (subC x3 z3) (addC x2 z2)) (mulC (addC x3 z3) (subC x2 z2))) (addC (mulC (subC x3 z3) (addC x2 z2)) (mulC (addC x3 z3) (subC x2 z2)))).map u64V, (mulC x1 (mulC (subC (mulC (subC x3 z3) (addC x2 z2)) (mulC (addC x3 z3) (subC x2 z2))) (subC (mulC (subC x3 z3) (addC x2 z2)) (mulC (addC x3 z3) (subC x2 z2))))).map u64V].flatten, 0⟩), (8, ⟨true, b8, 0, 34, (subC (mulC (addC x2 z2) (addC x2 z2)) (mulC (subC x2 z2) (subC x2 z2))).map u64V, 0⟩)]) := by
                refine hGo ?_
                refine At.bStep [5] (by kernel_rfl) (by simp) ?_
                refine At.bSQ (some 88) (Q_loadA (k := 8) rfl rfl Try.underlying34 rfl sz34 LN rfl) ?_
                refine At.bC  11 (some 94) [] (vs := [_, _]) (by kernel_rfl) (by kernel_rfl) rfl en16 rfl V0 (c_mulC (a := (subC (mulC (addC x2 z2) (addC x2 z2)) (mulC (subC x2 z2) (subC x2 z2)))) (b := (addC (mulC (addC x2 z2) (addC x2 z2)) (mulC [121665#64, 0#64, 0#64, 0#64, 0#64] (subC (mulC (addC x2 z2) (addC x2 z2)) (mulC (subC x2 z2) (subC x2 z2)))))) LN LN BD BD) ?_
                refine At.bP  12 (some 95) (P_nilCheck rfl rfl) (by kernel_rfl) (by kernel_rfl) ?_
                refine At.bP  13 (some 96) (P_fieldAddr0 (off := 5) rfl Try.underlying38 rfl sz34 rfl rfl) (by kernel_rfl) (by kernel_rfl) ?_
                exact At.into (hGi (hG6_2 )) rfl rfl
              have hG6_4  : G 9 #[true, true, true, true, true, true, false, true, true, true, false, false, false, false, false, false, false, false] (frOf [(6, ptr b6 0), (83, ptr bl 0), (84, ptr bl 0), (87, .agg ((mulC (mulC (addC x2 z2) (addC x2 z2)) (mulC (subC x2 z2) (subC x2 z2))).map u64V).toArray), (88, .agg ((subC (mulC (addC x2 z2) (addC x2 z2)) (mulC (subC x2 z2) (subC x2 z2))).map u64V).toArray), (92, .agg ((mulC [121665#64, 0#64, 0#64, 0#64, 0#64] (subC (mulC (addC x2 z2) (addC x2 z2)) (mulC (subC x2 z2) (subC x2 z2)))).map u64V).toArray)]) (hOf [(0, ⟨true, bl, 0, 38, [(x1).map u64V, (x2).map u64V, (z2).map u64V, (mulC (addC (mulC (subC x3 z3) (addC x2 z2)) (mulC (addC x3 z3) (subC x2 z2))) (addC (mulC (subC x3 z3) (addC x2 z2)) (mulC (addC x3 z3) (subC x2 z2)))).map u64V, (mulC x1 (mulC (subC (mulC (subC x3 z3) (addC x2 z2)) (mulC (addC x3 z3) (subC x2 z2))) (subC (mulC (subC x3 z3) (addC x2 z2)) (mulC (addC x3 z3) (subC x2 z2))))).map u64V].flatten, 0⟩), (6, ⟨true, b6, 0, 34, (mulC (addC x2 z2) (addC x2 z2)).map u64V, 0⟩)]) := by
                refine hGo ?_
                refine At.bStep [6] (by kernel_rfl) (by simp) ?_
                refine At.bSQ (some 89) (Q_loadA (k := 6) rfl rfl Try.underlying34 rfl sz34 LN rfl) ?_
                refine At.bC  10 (some 93) [] (vs := [_, _]) (by kernel_rfl) (by kernel_rfl) rfl en24 rfl V0 (c_add (a := (mulC (addC x2 z2) (addC x2 z2))) (b := (mulC [121665#64, 0#64, 0#64, 0#64, 0#64] (subC (mulC (addC x2 z2) (addC x2 z2)) (mulC (subC x2 z2) (subC x2 z2))))) LN LN BD BD) ?_
                refine At.bC  11 (some 94) [] (vs := [_, _]) (by kernel_rfl) (by kernel_rfl) rfl en16 rfl V0 (c_mulC (a := (subC (mulC (addC x2 z2) (addC x2 z2)) (mulC (subC x2 z2) (subC x2 z2)))) (b := (addC (mulC (addC x2 z2) (addC x2 z2)) (mulC [121665#64, 0#64, 0#64, 0#64, 0#64] (subC (mulC (addC x2 z2) (addC x2 z2)) (mulC (subC x2 z2) (subC x2 z2)))))) LN LN BD BD) ?_
                refine At.bP  12 (some 95) (P_nilCheck rfl rfl) (by kernel_rfl) (by kernel_rfl) ?_
                refine At.bP  13 (some 96) (P_fieldAddr0 (off := 5) rfl Try.underlying38 rfl sz34 rfl rfl) (by kernel_rfl) (by kernel_rfl) ?_
                exact At.into (hGi (hG6_2 )) rfl rfl
              have hG6_5  : G 10 #[true, true, true, true, true, true, true, true, false, false, false, false, false, false, false, false, false, false] (frOf [(8, ptr b8 0), (83, ptr bl 0), (84, ptr bl 0), (87, .agg ((mulC (mulC (addC x2 z2) (addC x2 z2)) (mulC (subC x2 z2) (subC x2 z2))).map u64V).toArray), (88, .agg ((subC (mulC (addC x2 z2) (addC x2 z2)) (mulC (subC x2 z2) (subC x2 z2))).map u64V).toArray), (89, .agg ((mulC (addC x2 z2) (addC x2 z2)).map u64V).toArray), (90, .agg (([121665#64, 0#64, 0#64, 0#64, 0#64]).map u64V).toArray)]) (hOf [(0, ⟨true, bl, 0, 38, [(x1).map u64V, (x2).map u64V, (z2).map u64V, (mulC (addC (mulC (subC x3 z3) (addC x2 z2)) (mulC (addC x3 z3) (subC x2 z2))) (addC (mulC (subC x3 z3) (addC x2 z2)) (mulC (addC x3 z3) (subC x2 z2)))).map u64V, (mulC x1 (mulC (subC (mulC (subC x3 z3) (addC x2 z2)) (mulC (addC x3 z3) (subC x2 z2))) (subC (mulC (subC x3 z3) (addC x2 z2)) (mulC (addC x3 z3) (subC x2 z2))))).map u64V].flatten, 0⟩), (8, ⟨true, b8, 0, 34, (subC (mulC (addC x2 z2) (addC x2 z2)) (mulC (subC x2 z2) (subC x2 z2))).map u64V, 0⟩)]) := by
                refine hGo ?_
                refine At.bStep [8] (by kernel_rfl) (by simp) ?_
                refine At.bSQ (some 91) (Q_loadA (k := 8) rfl rfl Try.underlying34 rfl sz34 LN rfl) ?_
                refine At.bC  9 (some 92) [] (vs := [_, _]) (by kernel_rfl) (by kernel_rfl) rfl en16 rfl V0 (c_mulC (a := [121665#64, 0#64, 0#64, 0#64, 0#64]) (b := (subC (mulC (addC x2 z2) (addC x2 z2)) (mulC (subC x2 z2) (subC x2 z2)))) LN LN BD BD) ?_
                refine At.bC  10 (some 93) [] (vs := [_, _]) (by kernel_rfl) (by kernel_rfl) rfl en24 rfl V0 (c_add (a := (mulC (addC x2 z2) (addC x2 z2))) (b := (mulC [121665#64, 0#64, 0#64, 0#64, 0#64] (subC (mulC (addC x2 z2) (addC x2 z2)) (mulC (subC x2 z2) (subC x2 z2))))) LN LN BD BD) ?_
                refine At.bC  11 (some 94) [] (vs := [_, _]) (by kernel_rfl) (by kernel_rfl) rfl en16 rfl V0 (c_mulC (a := (subC (mulC (addC x2 z2) (addC x2 z2)) (mulC (subC x2 z2) (subC x2 z2)))) (b := (addC (mulC (addC x2 z2) (addC x2 z2)) (mulC [121665#64, 0#64, 0#64, 0#64, 0#64] (subC (mulC (addC x2 z2) (addC x2 z2)) (mulC (subC x2 z2) (subC x2 z2)))))) LN LN BD BD) ?_
                refine At.bP  12 (some 95) (P_nilCheck rfl rfl) (by kernel_rfl) (by kernel_rfl) ?_
                refine At.bP  13 (some 96) (P_fieldAddr0 (off := 5) rfl Try.underlying38 rfl sz34 rfl rfl) (by kernel_rfl) (by kernel_rfl) ?_
                exact At.into (hGi (hG6_2 )) rfl rfl
              have hG6_6  : G 10 #[true, true, true, true, true, false, false, true, true, true, false, false, false, false, false, false, false, false] (frOf [(6, ptr b6 0), (8, ptr b8 0), (83, ptr bl 0), (84, ptr bl 0), (87, .agg ((mulC (mulC (addC x2 z2) (addC x2 z2)) (mulC (subC x2 z2) (subC x2 z2))).map u64V).toArray), (92, .agg ((mulC [121665#64, 0#64, 0#64, 0#64, 0#64] (subC (mulC (addC x2 z2) (addC x2 z2)) (mulC (subC x2 z2) (subC x2 z2)))).map u64V).toArray)]) (hOf [(0, ⟨true, bl, 0, 38, [(x1).map u64V, (x2).map u64V, (z2).map u64V, (mulC (addC (mulC (subC x3 z3) (addC x2 z2)) (mulC (addC x3 z3) (subC x2 z2))) (addC (mulC (subC x3 z3) (addC x2 z2)) (mulC (addC x3 z3) (subC x2 z2)))).map u64V, (mulC x1 (mulC (subC (mulC (subC x3 z3) (addC x2 z2)) (mulC (addC x3 z3) (subC x2 z2))) (subC (mulC (subC x3 z3) (addC x2 z2)) (mulC (addC x3 z3) (subC x2 z2))))).map u64V].flatten, 0⟩), (6, ⟨true, b6, 0, 34, (mulC (addC x2 z2) (addC x2 z2)).map u64V, 0⟩), (8, ⟨true, b8, 0, 34, (subC (mulC (addC x2 z2) (addC x2 z2)) (mulC (subC x2 z2) (subC x2 z2))).map u64V, 0⟩)]) := by
                refine hGo ?_
                refine At.bStep [5, 6] (by kernel_rfl) (by simp) ?_
                refine ⟨?_, ?_⟩
                ·
                  refine At.bSQ (some 88) (Q_loadA (k := 8) rfl rfl Try.underlying34 rfl sz34 LN rfl) ?_
                  exact At.into (hGi (hG6_4 )) rfl rfl
                ·
                  refine At.bSQ (some 89) (Q_loadA (k := 6) rfl rfl Try.underlying34 rfl sz34 LN rfl) ?_
                  refine At.bC  10 (some 93) [] (vs := [_, _]) (by kernel_rfl) (by kernel_rfl) rfl en24 rfl V0 (c_add (a := (mulC (addC x2 z2) (addC x2 z2))) (b := (mulC [121665#64, 0#64, 0#64, 0#64, 0#64] (subC (mulC (addC x2 z2) (addC x2 z2)) (mulC (subC x2 z2) (subC x2 z2))))) LN LN BD BD) ?_
                  exact At.into (hGi (hG6_3 )) rfl rfl
              have hG6_7  : G 11 #[true, true, true, true, true, true, false, true, false, false, false, false, false, false, false, false, false, false] (frOf [(6, ptr b6 0), (8, ptr b8 0), (83, ptr bl 0), (84, ptr bl 0), (87, .agg ((mulC (mulC (addC x2 z2) (addC x2 z2)) (mulC (subC x2 z2) (subC x2 z2))).map u64V).toArray), (88, .agg ((subC (mulC (addC x2 z2) (addC x2 z2)) (mulC (subC x2 z2) (subC x2 z2))).map u64V).toArray), (90, .agg (([121665#64, 0#64, 0#64, 0#64, 0#64]).map u64V).toArray)]) (hOf [(0, ⟨true, bl, 0, 38, [(x1).map u64V, (x2).map u64V, (z2).map u64V, (mulC (addC (mulC (subC x3 z3) (addC x2 z2)) (mulC (addC x3 z3) (subC x2 z2))) (addC (mulC (subC x3 z3) (addC x2 z2)) (mulC (addC x3 z3) (subC x2 z2)))).map u64V, (mulC x1 (mulC (subC (mulC (subC x3 z3) (addC x2 z2)) (mulC (addC x3 z3) (subC x2 z2))) (subC (mulC (subC x3 z3) (addC x2 z2)) (mulC (addC x3 z3) (subC x2 z2))))).map u64V].flatten, 0⟩), (6, ⟨true, b6, 0, 34, (mulC (addC x2 z2) (addC x2 z2)).map u64V, 0⟩), (8, ⟨true, b8, 0, 34, (subC (mulC (addC x2 z2) (addC x2 z2)) (mulC (subC x2 z2) (subC x2 z2))).map u64V, 0⟩)]) := by
                refine hGo ?_
                refine At.bStep [6, 8] (by kernel_rfl) (by simp) ?_
                refine ⟨?_, ?_⟩
                ·
                  refine At.bSQ (some 89) (Q_loadA (k := 6) rfl rfl Try.underlying34 rfl sz34 LN rfl) ?_
                  exact At.into (hGi (hG6_5 )) rfl rfl
                ·
                  refine At.bSQ (some 91) (Q_loadA (k := 8) rfl rfl Try.underlying34 rfl sz34 LN rfl) ?_
                  refine At.bC  9 (some 92) [] (vs := [_, _]) (by kernel_rfl) (by kernel_rfl) rfl en16 rfl V0 (c_mulC (a := [121665#64, 0#64, 0#64, 0#64, 0#64]) (b := (subC (mulC (addC x2 z2) (addC x2 z2)) (mulC (subC x2 z2) (subC x2 z2)))) LN LN BD BD) ?_
                  exact At.into (hGi (hG6_4 )) rfl rfl
              have hG6_8  : G 11 #[true, true, true, true, true, false, true, true, false, false, false, false, false, false, false, false, false, false] (frOf [(8, ptr b8 0), (83, ptr bl 0), (84, ptr bl 0), (87, .agg ((mulC (mulC (addC x2 z2) (addC x2 z2)) (mulC (subC x2 z2) (subC x2 z2))).map u64V).toArray), (89, .agg ((mulC (addC x2 z2) (addC x2 z2)).map u64V).toArray), (90, .agg (([121665#64, 0#64, 0#64, 0#64, 0#64]).map u64V).toArray)]) (hOf [(0, ⟨true, bl, 0, 38, [(x1).map u64V, (x2).map u64V, (z2).map u64V, (mulC (addC (mulC (subC x3 z3) (addC x2 z2)) (mulC (addC x3 z3) (subC x2 z2))) (addC (mulC (subC x3 z3) (addC x2 z2)) (mulC (addC x3 z3) (subC x2 z2)))).map u64V, (mulC x1 (mulC (subC (mulC (subC x3 z3) (addC x2 z2)) (mulC (addC x3 z3) (subC x2 z2))) (subC (mulC (subC x3 z3) (addC x2 z2)) (mulC (addC x3 z3) (subC x2 z2))))).map u64V].flatten, 0⟩), (8, ⟨true, b8, 0, 34, (subC (mulC (addC x2 z2) (addC x2 z2)) (mulC (subC x2 z2) (subC x2 z2))).map u64V, 0⟩)]) := by
                refine hGo ?_
                refine At.bStep [5, 8] (by kernel_rfl) (by simp) ?_
                refine ⟨?_, ?_⟩
                ·
                  refine At.bSQ (some 88) (Q_loadA (k := 8) rfl rfl Try.underlying34 rfl sz34 LN rfl) ?_
                  exact At.into (hGi (hG6_5 )) rfl rfl
                ·
                  refine At.bSQ (some 91) (Q_loadA (k := 8) rfl rfl Try.underlying34 rfl sz34 LN rfl) ?_
                  refine At.bC  9 (some 92) [] (vs := [_, _]) (by kernel_rfl) (by kernel_rfl) rfl en16 rfl V0 (c_mulC (a := [121665#64, 0#64, 0#64, 0#64, 0#64]) (b := (subC (mulC (addC x2 z2) (addC x2 z2)) (mulC (subC x2 z2) (subC x2 z2)))) LN LN BD BD) ?_
                  refine At.bC  10 (some 93) [] (vs := [_, _]) (by kernel_rfl) (by kernel_rfl) rfl en24 rfl V0 (c_add (a := (mulC (addC x2 z2) (addC x2 z2))) (b := (mulC [121665#64, 0#64, 0#64, 0#64, 0#64] (subC (mulC (addC x2 z2) (addC x2 z2)) (mulC (subC x2 z2) (subC x2 z2))))) LN LN BD BD) ?_
                  exact At.into (hGi (hG6_3 )) rfl rfl
              have hG6_9  : G 12 #[true, true, true, true, true, false, false, true, false, false, false, false, false, false, false, false, false, false] (frOf [(6, ptr b6 0), (8, ptr b8 0), (83, ptr bl 0), (84, ptr bl 0), (87, .agg ((mulC (mulC (addC x2 z2) (addC x2 z2)) (mulC (subC x2 z2) (subC x2 z2))).map u64V).toArray), (90, .agg (([121665#64, 0#64, 0#64, 0#64, 0#64]).map u64V).toArray)]) (hOf [(0, ⟨true, bl, 0, 38, [(x1).map u64V, (x2).map u64V, (z2).map u64V, (mulC (addC (mulC (subC x3 z3) (addC x2 z2)) (mulC (addC x3 z3) (subC x2 z2))) (addC (mulC (subC x3 z3) (addC x2 z2)) (mulC (addC x3 z3) (subC x2 z2)))).map u64V, (mulC x1 (mulC (subC (mulC (subC x3 z3) (addC x2 z2)) (mulC (addC x3 z3) (subC x2 z2))) (subC (mulC (subC x3 z3) (addC x2 z2)) (mulC (addC x3 z3) (subC x2 z2))))).map u64V].flatten, 0⟩), (6, ⟨true, b6, 0, 34, (mulC (addC x2 z2) (addC x2 z2)).map u64V, 0⟩), (8, ⟨true, b8, 0, 34, (subC (mulC (addC x2 z2) (addC x2 z2)) (mulC (subC x2 z2) (subC x2 z2))).map u64V, 0⟩)]) := by
                refine hGo ?_
                refine At.bStep [5, 6, 8] (by kernel_rfl) (by simp) ?_
                refine ⟨?_, ?_, ?_⟩
                ·
                  refine At.bSQ (some 88) (Q_loadA (k := 8) rfl rfl Try.underlying34 rfl sz34 LN rfl) ?_
                  exact At.into (hGi (hG6_7 )) rfl rfl
                ·
                  refine At.bSQ (some 89) (Q_loadA (k := 6) rfl rfl Try.underlying34 rfl sz34 LN rfl) ?_
                  exact At.into (hGi (hG6_8 )) rfl rfl
                ·
                  refine At.bSQ (some 91) (Q_loadA (k := 8) rfl rfl Try.underlying34 rfl sz34 LN rfl) ?_
                  refine At.bC  9 (some 92) [] (vs := [_, _]) (by kernel_rfl) (by kernel_rfl) rfl en16 rfl V0 (c_mulC (a := [121665#64, 0#64, 0#64, 0#64, 0#64]) (b := (subC (mulC (addC x2 z2) (addC x2 z2)) (mulC (subC x2 z2) (subC x2 z2)))) LN LN BD BD) ?_
                  exact At.into (hGi (hG6_6 )) rfl rfl
              refine hGo ?_
              refine At.bP  0 (some 83) (P_move rfl rfl) (by kernel_rfl) (by kernel_rfl) ?_
              refine At.bP  1 (some 84) (P_move rfl rfl) (by kernel_rfl) (by kernel_rfl) ?_
              refine At.bQ  2 (some 85) (Q_loadA (k := 6) rfl rfl Try.underlying34 rfl sz34 LN rfl) (by kernel_rfl) (by kernel_rfl) ?_
              refine At.bQ  3 (some 86) (Q_loadA (k := 7) rfl rfl Try.underlying34 rfl sz34 LN rfl) (by kernel_rfl) (by kernel_rfl) ?_
              refine At.bC  4 (some 87) [] (vs := [_, _]) (by kernel_rfl) (by kernel_rfl) rfl en16 rfl V0 (c_mulC (a := (mulC (addC x2 z2) (addC x2 z2))) (b := (mulC (subC x2 z2) (subC x2 z2))) LN LN BD BD) ?_
              refine At.bP  7 (some 90) (P_build_arr (cs := (([121665#64, 0#64, 0#64, 0#64, 0#64]).map u64V).toArray) (parts := _) (vs := [(0, _)]) rfl Try.underlying34 sz31 ze34 rfl rfl) (by kernel_rfl) (by kernel_rfl) ?_
              exact At.into (hGi (hG6_9 )) rfl rfl
            · rintro fr H ⟨rfl, rfl, -⟩
              have hr0 : [(x1).map u64V, (mulC (mulC (addC x2 z2) (addC x2 z2)) (mulC (subC x2 z2) (subC x2 z2))).map u64V, (mulC (subC (mulC (addC x2 z2) (addC x2 z2)) (mulC (subC x2 z2) (subC x2 z2))) (addC (mulC (addC x2 z2) (addC x2 z2)) (mulC [121665#64, 0#64, 0#64, 0#64, 0#64] (subC (mulC (addC x2 z2) (addC x2 z2)) (mulC (subC x2 z2) (subC x2 z2)))))).map u64V, (mulC (addC (mulC (subC x3 z3) (addC x2 z2)) (mulC (addC x3 z3) (subC x2 z2))) (addC (mulC (subC x3 z3) (addC x2 z2)) (mulC (addC x3 z3) (subC x2 z2)))).map u64V, (mulC x1 (mulC (subC (mulC (subC x3 z3) (addC x2 z2)) (mulC (addC x3 z3) (subC x2 z2))) (subC (mulC (subC x3 z3) (addC x2 z2)) (mulC (addC x3 z3) (subC x2 z2))))).map u64V].flatten = [(x1).map u64V, ((stepG addC subC mulC num5 x1 ⟨x2, z2, x3, z3⟩).x2).map u64V, ((stepG addC subC mulC num5 x1 ⟨x2, z2, x3, z3⟩).z2).map u64V, ((stepG addC subC mulC num5 x1 ⟨x2, z2, x3, z3⟩).x3).map u64V, ((stepG addC subC mulC num5 x1 ⟨x2, z2, x3, z3⟩).z3).map u64V].flatten := rfl
              refine At.give (.inr rfl) [0] (rows' := [_]) (vs := []) rfl trivial rfl (by simp) (by simp) ⟨(by first | (rw [hr0]; try rfl; done) | (rw [← hr0]; try rfl; done) | (simp only [hr0]; try rfl; done) | (simp only [← hr0]; try rfl; done) | rfl), (by first | (rw [hr0]; try rfl; done) | (rw [← hr0]; try rfl; done) | (simp only [hr0]; try rfl; done) | (simp only [← hr0]; try rfl; done) | rfl)⟩

end Go.Proofs.Ytnhjmapapbhhpaa
