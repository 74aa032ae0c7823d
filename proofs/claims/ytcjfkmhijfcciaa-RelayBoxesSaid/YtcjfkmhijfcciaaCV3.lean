import Derived.Test.YtcjfkmhijfcciaaCV2
namespace Go.Proofs.Ytcjfkmhijfcciaa
set_option maxRecDepth 20000
set_option linter.unusedVariables false
set_option linter.unusedSimpArgs false
open Go.SE Go.RowKit
attribute [local irreducible] carN zadd subC0 mulC addC subC
set_option maxHeartbeats 2000000 in
theorem c_step {bl : Nat} {x1 : List (BitVec 64)} {x2 : List (BitVec 64)} {z2 : List (BitVec 64)} {x3 : List (BitVec 64)} {z3 : List (BitVec 64)} (hx1 : x1.length = 5) (hx2 : x2.length = 5) (hz2 : z2.length = 5) (hx3 : x3.length = 5) (hz3 : z3.length = 5) (bx1 : Bnd x1) (bx2 : Bnd x2) (bz2 : Bnd z2) (bx3 : Bnd x3) (bz3 : Bnd z3) :
  Con Try.prog 52 [ptr bl 0] [⟨true, bl, 0, 99, [(x1).map u64V, (x2).map u64V, (z2).map u64V, (x3).map u64V, (z3).map u64V].flatten, 0⟩] (fun v rs => v = .tuple #[] ∧ rs = [⟨true, bl, 0, 99, [(x1).map u64V, ((stepG addC subC mulC num5 x1 ⟨x2, z2, x3, z3⟩).x2).map u64V, ((stepG addC subC mulC num5 x1 ⟨x2, z2, x3, z3⟩).z2).map u64V, ((stepG addC subC mulC num5 x1 ⟨x2, z2, x3, z3⟩).x3).map u64V, ((stepG addC subC mulC num5 x1 ⟨x2, z2, x3, z3⟩).z3).map u64V].flatten, 0⟩]) := by
 refine Con.enter Try.func52 Try.ntmps52 (Nat.le_of_ble_eq_true rfl) rfl fun w => ?_
 refine At.seq ?_
 have := addC_len x2 z2
 have := subC_len x2 z2
 refine At.bBruteG [20, 21] (fun fr H => ∃ (b2 : Nat) (b3 : Nat), fr = frOf [(0, ptr bl 0), (2, ptr b2 0), (3, ptr b3 0)] ∧ H = hOf [(0, ⟨true, bl, 0, 99, [(x1).map u64V, (x2).map u64V, (z2).map u64V, (x3).map u64V, (z3).map u64V].flatten, 0⟩), (2, ⟨true, b2, 0, 95, (addC x2 z2).map u64V, 0⟩), (3, ⟨true, b3, 0, 95, (subC x2 z2).map u64V, 0⟩)] ∧ True) (by kernel_rfl) ?_ ?_
 ·
  intro Kb hKb G hGi hGo
  have hG0_0 (b2 : Nat) (b3 : Nat) : G 0 #[true, true, true, true, true, true, true, true, true, true, true, true, true, true, true, true, true, true, true, true, true, true] (frOf [(0, ptr bl 0), (2, ptr b2 0), (3, ptr b3 0)]) (hOf [(0, ⟨true, bl, 0, 99, [(x1).map u64V, (x2).map u64V, (z2).map u64V, (x3).map u64V, (z3).map u64V].flatten, 0⟩), (2, ⟨true, b2, 0, 95, (addC x2 z2).map u64V, 0⟩), (3, ⟨true, b3, 0, 95, (subC x2 z2).map u64V, 0⟩)]) := by
   refine hGo ?_
   refine At.bEnd (by kernel_rfl) ?_
   refine At.next ?_
   exact hKb _ _ ⟨b2, b3, rfl, rfl, trivial⟩
  have hG0_1 (b2 : Nat) (b3 : Nat) : G 1 #[true, true, true, true, true, true, true, true, true, true, true, true, true, true, true, true, true, true, true, true, true, false] (frOf [(0, ptr bl 0), (2, ptr b2 0), (3, ptr b3 0), (28, .agg ((subC x2 z2).map u64V).toArray)]) (hOf [(0, ⟨true, bl, 0, 99, [(x1).map u64V, (x2).map u64V, (z2).map u64V, (x3).map u64V, (z3).map u64V].flatten, 0⟩), (2, ⟨true, b2, 0, 95, (addC x2 z2).map u64V, 0⟩), (3, ⟨true, b3, 0, 95, (List.replicate 5 0#64).map u64V, 0⟩)]) := by
   refine hGo ?_
   refine At.bStep [21] (by kernel_rfl) (by simp) ?_
   refine At.bS true (by kernel_rfl) (S_storeA none (k := 3) (vs := (subC x2 z2).map u64V) rfl rfl rfl (by rw [sz95]; exact congrArg some LN) rfl (one_map (fun _ => rfl)) NG rfl LN ?_)
   exact At.into (hGi (hG0_0 b2 b3)) rfl rfl
  have hG0_2 (b2 : Nat) (b3 : Nat) : G 2 #[true, true, true, true, true, true, true, true, true, true, true, true, true, true, true, true, true, true, true, true, false, false] (frOf [(0, ptr bl 0), (2, ptr b2 0), (3, ptr b3 0), (19, .agg ((addC x2 z2).map u64V).toArray), (28, .agg ((subC x2 z2).map u64V).toArray)]) (hOf [(0, ⟨true, bl, 0, 99, [(x1).map u64V, (x2).map u64V, (z2).map u64V, (x3).map u64V, (z3).map u64V].flatten, 0⟩), (2, ⟨true, b2, 0, 95, (List.replicate 5 0#64).map u64V, 0⟩), (3, ⟨true, b3, 0, 95, (List.replicate 5 0#64).map u64V, 0⟩)]) := by
   refine hGo ?_
   refine At.bStep [20] (by kernel_rfl) (by simp) ?_
   refine At.bS true (by kernel_rfl) (S_storeA none (k := 2) (vs := (addC x2 z2).map u64V) rfl rfl rfl (by rw [sz95]; exact congrArg some LN) rfl (one_map (fun _ => rfl)) NG rfl LN ?_)
   exact At.into (hGi (hG0_1 b2 b3)) rfl rfl
  have hG0_3 (b2 : Nat) : G 3 #[true, true, true, true, true, true, true, true, true, true, true, true, true, true, true, true, true, true, true, false, false, false] (frOf [(0, ptr bl 0), (2, ptr b2 0), (19, .agg ((addC x2 z2).map u64V).toArray), (28, .agg ((subC x2 z2).map u64V).toArray)]) (hOf [(0, ⟨true, bl, 0, 99, [(x1).map u64V, (x2).map u64V, (z2).map u64V, (x3).map u64V, (z3).map u64V].flatten, 0⟩), (2, ⟨true, b2, 0, 95, (List.replicate 5 0#64).map u64V, 0⟩)]) := by
   refine hGo ?_
   refine At.bStep [19] (by kernel_rfl) (by simp) ?_
   refine At.bS false (by kernel_rfl) (S_alloc (some 3) 3 (zs := (List.replicate 5 0#64).map u64V) rfl ze95 rfl (fun b3 => ?_))
   exact At.into (hGi (hG0_2 b2 b3)) rfl rfl
  have hG0_4 (b3 : Nat) : G 3 #[true, true, true, true, true, true, true, true, true, true, true, true, true, true, true, true, true, true, false, true, false, false] (frOf [(0, ptr bl 0), (3, ptr b3 0), (19, .agg ((addC x2 z2).map u64V).toArray), (28, .agg ((subC x2 z2).map u64V).toArray)]) (hOf [(0, ⟨true, bl, 0, 99, [(x1).map u64V, (x2).map u64V, (z2).map u64V, (x3).map u64V, (z3).map u64V].flatten, 0⟩), (3, ⟨true, b3, 0, 95, (List.replicate 5 0#64).map u64V, 0⟩)]) := by
   refine hGo ?_
   refine At.bStep [18] (by kernel_rfl) (by simp) ?_
   refine At.bS false (by kernel_rfl) (S_alloc (some 2) 2 (zs := (List.replicate 5 0#64).map u64V) rfl ze95 rfl (fun b2 => ?_))
   exact At.into (hGi (hG0_2 b2 b3)) rfl rfl
  have hG0_5  : G 4 #[true, true, true, true, true, true, true, true, true, true, true, true, true, true, true, true, true, true, false, false, false, false] (frOf [(0, ptr bl 0), (19, .agg ((addC x2 z2).map u64V).toArray), (28, .agg ((subC x2 z2).map u64V).toArray)]) (hOf [(0, ⟨true, bl, 0, 99, [(x1).map u64V, (x2).map u64V, (z2).map u64V, (x3).map u64V, (z3).map u64V].flatten, 0⟩)]) := by
   refine hGo ?_
   refine At.bStep [18, 19] (by kernel_rfl) (by simp) ?_
   refine ⟨?_, ?_⟩
   ·
    refine At.bS false (by kernel_rfl) (S_alloc (some 2) 2 (zs := (List.replicate 5 0#64).map u64V) rfl ze95 rfl (fun b2 => ?_))
    exact At.into (hGi (hG0_3 b2)) rfl rfl
   ·
    refine At.bS false (by kernel_rfl) (S_alloc (some 3) 3 (zs := (List.replicate 5 0#64).map u64V) rfl ze95 rfl (fun b3 => ?_))
    exact At.into (hGi (hG0_4 b3)) rfl rfl
  have hG0_6 (b2 : Nat) (b3 : Nat) : G 4 #[true, true, true, true, true, true, true, true, true, true, true, true, true, true, true, true, false, false, true, true, false, false] (frOf [(0, ptr bl 0), (2, ptr b2 0), (3, ptr b3 0), (19, .agg ((addC x2 z2).map u64V).toArray), (23, .agg ((x2).map u64V).toArray), (26, ptr bl 10)]) (hOf [(0, ⟨true, bl, 0, 99, [(x1).map u64V, (x2).map u64V, (z2).map u64V, (x3).map u64V, (z3).map u64V].flatten, 0⟩), (2, ⟨true, b2, 0, 95, (List.replicate 5 0#64).map u64V, 0⟩), (3, ⟨true, b3, 0, 95, (List.replicate 5 0#64).map u64V, 0⟩)]) := by
   refine hGo ?_
   refine At.bStep [16] (by kernel_rfl) (by simp) ?_
   refine At.bSQ (some 27) (Q_loadN (k := 0) (j := 10) (cs := (z2).map u64V) rfl rfl Try.underlying95 rfl sz95 rfl rfl rfl (seg_at (i := 2) rfl LN LN) LN) ?_
   refine At.bC  17 (some 28) [] (vs := [_, _]) (by kernel_rfl) (by kernel_rfl) rfl en99 rfl V0 (c_sub (a := x2) (b := z2) LN LN BD BD) ?_
   exact At.into (hGi (hG0_2 b2 b3)) rfl rfl
  have hG0_7 (b2 : Nat) (b3 : Nat) : G 4 #[true, true, true, true, true, true, true, true, true, true, true, true, false, true, true, true, true, false, true, true, false, false] (frOf [(0, ptr bl 0), (2, ptr b2 0), (3, ptr b3 0), (19, .agg ((addC x2 z2).map u64V).toArray), (22, ptr bl 5), (27, .agg ((z2).map u64V).toArray)]) (hOf [(0, ⟨true, bl, 0, 99, [(x1).map u64V, (x2).map u64V, (z2).map u64V, (x3).map u64V, (z3).map u64V].flatten, 0⟩), (2, ⟨true, b2, 0, 95, (List.replicate 5 0#64).map u64V, 0⟩), (3, ⟨true, b3, 0, 95, (List.replicate 5 0#64).map u64V, 0⟩)]) := by
   refine hGo ?_
   refine At.bStep [12] (by kernel_rfl) (by simp) ?_
   refine At.bSQ (some 23) (Q_loadN (k := 0) (j := 5) (cs := (x2).map u64V) rfl rfl Try.underlying95 rfl sz95 rfl rfl rfl (seg_at (i := 1) rfl LN LN) LN) ?_
   refine At.bC  17 (some 28) [] (vs := [_, _]) (by kernel_rfl) (by kernel_rfl) rfl en99 rfl V0 (c_sub (a := x2) (b := z2) LN LN BD BD) ?_
   exact At.into (hGi (hG0_2 b2 b3)) rfl rfl
  have hG0_8 (b2 : Nat) : G 5 #[true, true, true, true, true, true, true, true, true, true, true, true, true, true, true, true, false, false, true, false, false, false] (frOf [(0, ptr bl 0), (2, ptr b2 0), (19, .agg ((addC x2 z2).map u64V).toArray), (23, .agg ((x2).map u64V).toArray), (26, ptr bl 10)]) (hOf [(0, ⟨true, bl, 0, 99, [(x1).map u64V, (x2).map u64V, (z2).map u64V, (x3).map u64V, (z3).map u64V].flatten, 0⟩), (2, ⟨true, b2, 0, 95, (List.replicate 5 0#64).map u64V, 0⟩)]) := by
   refine hGo ?_
   refine At.bStep [16, 19] (by kernel_rfl) (by simp) ?_
   refine ⟨?_, ?_⟩
   ·
    refine At.bSQ (some 27) (Q_loadN (k := 0) (j := 10) (cs := (z2).map u64V) rfl rfl Try.underlying95 rfl sz95 rfl rfl rfl (seg_at (i := 2) rfl LN LN) LN) ?_
    refine At.bC  17 (some 28) [] (vs := [_, _]) (by kernel_rfl) (by kernel_rfl) rfl en99 rfl V0 (c_sub (a := x2) (b := z2) LN LN BD BD) ?_
    exact At.into (hGi (hG0_3 b2)) rfl rfl
   ·
    refine At.bS false (by kernel_rfl) (S_alloc (some 3) 3 (zs := (List.replicate 5 0#64).map u64V) rfl ze95 rfl (fun b3 => ?_))
    exact At.into (hGi (hG0_6 b2 b3)) rfl rfl
  have hG0_9 (b3 : Nat) : G 5 #[true, true, true, true, true, true, true, true, true, true, true, true, true, true, true, true, false, false, false, true, false, false] (frOf [(0, ptr bl 0), (3, ptr b3 0), (19, .agg ((addC x2 z2).map u64V).toArray), (23, .agg ((x2).map u64V).toArray), (26, ptr bl 10)]) (hOf [(0, ⟨true, bl, 0, 99, [(x1).map u64V, (x2).map u64V, (z2).map u64V, (x3).map u64V, (z3).map u64V].flatten, 0⟩), (3, ⟨true, b3, 0, 95, (List.replicate 5 0#64).map u64V, 0⟩)]) := by
   refine hGo ?_
   refine At.bStep [16, 18] (by kernel_rfl) (by simp) ?_
   refine ⟨?_, ?_⟩
   ·
    refine At.bSQ (some 27) (Q_loadN (k := 0) (j := 10) (cs := (z2).map u64V) rfl rfl Try.underlying95 rfl sz95 rfl rfl rfl (seg_at (i := 2) rfl LN LN) LN) ?_
    refine At.bC  17 (some 28) [] (vs := [_, _]) (by kernel_rfl) (by kernel_rfl) rfl en99 rfl V0 (c_sub (a := x2) (b := z2) LN LN BD BD) ?_
    exact At.into (hGi (hG0_4 b3)) rfl rfl
   ·
    refine At.bS false (by kernel_rfl) (S_alloc (some 2) 2 (zs := (List.replicate 5 0#64).map u64V) rfl ze95 rfl (fun b2 => ?_))
    exact At.into (hGi (hG0_6 b2 b3)) rfl rfl
  have hG0_10 (b2 : Nat) : G 5 #[true, true, true, true, true, true, true, true, true, true, true, true, false, true, true, true, true, false, true, false, false, false] (frOf [(0, ptr bl 0), (2, ptr b2 0), (19, .agg ((addC x2 z2).map u64V).toArray), (22, ptr bl 5), (27, .agg ((z2).map u64V).toArray)]) (hOf [(0, ⟨true, bl, 0, 99, [(x1).map u64V, (x2).map u64V, (z2).map u64V, (x3).map u64V, (z3).map u64V].flatten, 0⟩), (2, ⟨true, b2, 0, 95, (List.replicate 5 0#64).map u64V, 0⟩)]) := by
   refine hGo ?_
   refine At.bStep [12, 19] (by kernel_rfl) (by simp) ?_
   refine ⟨?_, ?_⟩
   ·
    refine At.bSQ (some 23) (Q_loadN (k := 0) (j := 5) (cs := (x2).map u64V) rfl rfl Try.underlying95 rfl sz95 rfl rfl rfl (seg_at (i := 1) rfl LN LN) LN) ?_
    refine At.bC  17 (some 28) [] (vs := [_, _]) (by kernel_rfl) (by kernel_rfl) rfl en99 rfl V0 (c_sub (a := x2) (b := z2) LN LN BD BD) ?_
    exact At.into (hGi (hG0_3 b2)) rfl rfl
   ·
    refine At.bS false (by kernel_rfl) (S_alloc (some 3) 3 (zs := (List.replicate 5 0#64).map u64V) rfl ze95 rfl (fun b3 => ?_))
    exact At.into (hGi (hG0_7 b2 b3)) rfl rfl
  have hG0_11 (b3 : Nat) : G 5 #[true, true, true, true, true, true, true, true, true, true, true, true, false, true, true, true, true, false, false, true, false, false] (frOf [(0, ptr bl 0), (3, ptr b3 0), (19, .agg ((addC x2 z2).map u64V).toArray), (22, ptr bl 5), (27, .agg ((z2).map u64V).toArray)]) (hOf [(0, ⟨true, bl, 0, 99, [(x1).map u64V, (x2).map u64V, (z2).map u64V, (x3).map u64V, (z3).map u64V].flatten, 0⟩), (3, ⟨true, b3, 0, 95, (List.replicate 5 0#64).map u64V, 0⟩)]) := by
   refine hGo ?_
   refine At.bStep [12, 18] (by kernel_rfl) (by simp) ?_
   refine ⟨?_, ?_⟩
   ·
    refine At.bSQ (some 23) (Q_loadN (k := 0) (j := 5) (cs := (x2).map u64V) rfl rfl Try.underlying95 rfl sz95 rfl rfl rfl (seg_at (i := 1) rfl LN LN) LN) ?_
    refine At.bC  17 (some 28) [] (vs := [_, _]) (by kernel_rfl) (by kernel_rfl) rfl en99 rfl V0 (c_sub (a := x2) (b := z2) LN LN BD BD) ?_
    exact At.into (hGi (hG0_4 b3)) rfl rfl
   ·
    refine At.bS false (by kernel_rfl) (S_alloc (some 2) 2 (zs := (List.replicate 5 0#64).map u64V) rfl ze95 rfl (fun b2 => ?_))
    exact At.into (hGi (hG0_7 b2 b3)) rfl rfl
  have hG0_12 (b2 : Nat) (b3 : Nat) : G 5 #[true, true, true, true, true, true, true, true, true, true, true, true, false, true, true, true, false, false, true, true, false, false] (frOf [(0, ptr bl 0), (2, ptr b2 0), (3, ptr b3 0), (19, .agg ((addC x2 z2).map u64V).toArray), (22, ptr bl 5), (26, ptr bl 10)]) (hOf [(0, ⟨true, bl, 0, 99, [(x1).map u64V, (x2).map u64V, (z2).map u64V, (x3).map u64V, (z3).map u64V].flatten, 0⟩), (2, ⟨true, b2, 0, 95, (List.replicate 5 0#64).map u64V, 0⟩), (3, ⟨true, b3, 0, 95, (List.replicate 5 0#64).map u64V, 0⟩)]) := by
   refine hGo ?_
   refine At.bStep [12, 16] (by kernel_rfl) (by simp) ?_
   refine ⟨?_, ?_⟩
   ·
    refine At.bSQ (some 23) (Q_loadN (k := 0) (j := 5) (cs := (x2).map u64V) rfl rfl Try.underlying95 rfl sz95 rfl rfl rfl (seg_at (i := 1) rfl LN LN) LN) ?_
    exact At.into (hGi (hG0_6 b2 b3)) rfl rfl
   ·
    refine At.bSQ (some 27) (Q_loadN (k := 0) (j := 10) (cs := (z2).map u64V) rfl rfl Try.underlying95 rfl sz95 rfl rfl rfl (seg_at (i := 2) rfl LN LN) LN) ?_
    exact At.into (hGi (hG0_7 b2 b3)) rfl rfl
  have hG0_13  : G 6 #[true, true, true, true, true, true, true, true, true, true, true, true, true, true, true, true, false, false, false, false, false, false] (frOf [(0, ptr bl 0), (19, .agg ((addC x2 z2).map u64V).toArray), (23, .agg ((x2).map u64V).toArray), (26, ptr bl 10)]) (hOf [(0, ⟨true, bl, 0, 99, [(x1).map u64V, (x2).map u64V, (z2).map u64V, (x3).map u64V, (z3).map u64V].flatten, 0⟩)]) := by
   refine hGo ?_
   refine At.bStep [16, 18, 19] (by kernel_rfl) (by simp) ?_
   refine ⟨?_, ?_, ?_⟩
   ·
    refine At.bSQ (some 27) (Q_loadN (k := 0) (j := 10) (cs := (z2).map u64V) rfl rfl Try.underlying95 rfl sz95 rfl rfl rfl (seg_at (i := 2) rfl LN LN) LN) ?_
    refine At.bC  17 (some 28) [] (vs := [_, _]) (by kernel_rfl) (by kernel_rfl) rfl en99 rfl V0 (c_sub (a := x2) (b := z2) LN LN BD BD) ?_
    exact At.into (hGi (hG0_5 )) rfl rfl
   ·
    refine At.bS false (by kernel_rfl) (S_alloc (some 2) 2 (zs := (List.replicate 5 0#64).map u64V) rfl ze95 rfl (fun b2 => ?_))
    exact At.into (hGi (hG0_8 b2)) rfl rfl
   ·
    refine At.bS false (by kernel_rfl) (S_alloc (some 3) 3 (zs := (List.replicate 5 0#64).map u64V) rfl ze95 rfl (fun b3 => ?_))
    exact At.into (hGi (hG0_9 b3)) rfl rfl
  have hG0_14  : G 6 #[true, true, true, true, true, true, true, true, true, true, true, true, false, true, true, true, true, false, false, false, false, false] (frOf [(0, ptr bl 0), (19, .agg ((addC x2 z2).map u64V).toArray), (22, ptr bl 5), (27, .agg ((z2).map u64V).toArray)]) (hOf [(0, ⟨true, bl, 0, 99, [(x1).map u64V, (x2).map u64V, (z2).map u64V, (x3).map u64V, (z3).map u64V].flatten, 0⟩)]) := by
   refine hGo ?_
   refine At.bStep [12, 18, 19] (by kernel_rfl) (by simp) ?_
   refine ⟨?_, ?_, ?_⟩
   ·
    refine At.bSQ (some 23) (Q_loadN (k := 0) (j := 5) (cs := (x2).map u64V) rfl rfl Try.underlying95 rfl sz95 rfl rfl rfl (seg_at (i := 1) rfl LN LN) LN) ?_
    refine At.bC  17 (some 28) [] (vs := [_, _]) (by kernel_rfl) (by kernel_rfl) rfl en99 rfl V0 (c_sub (a := x2) (b := z2) LN LN BD BD) ?_
    exact At.into (hGi (hG0_5 )) rfl rfl
   ·
    refine At.bS false (by kernel_rfl) (S_alloc (some 2) 2 (zs := (List.replicate 5 0#64).map u64V) rfl ze95 rfl (fun b2 => ?_))
    exact At.into (hGi (hG0_10 b2)) rfl rfl
   ·
    refine At.bS false (by kernel_rfl) (S_alloc (some 3) 3 (zs := (List.replicate 5 0#64).map u64V) rfl ze95 rfl (fun b3 => ?_))
    exact At.into (hGi (hG0_11 b3)) rfl rfl
  have hG0_15 (b2 : Nat) : G 6 #[true, true, true, true, true, true, true, true, true, true, true, true, false, true, true, true, false, false, true, false, false, false] (frOf [(0, ptr bl 0), (2, ptr b2 0), (19, .agg ((addC x2 z2).map u64V).toArray), (22, ptr bl 5), (26, ptr bl 10)]) (hOf [(0, ⟨true, bl, 0, 99, [(x1).map u64V, (x2).map u64V, (z2).map u64V, (x3).map u64V, (z3).map u64V].flatten, 0⟩), (2, ⟨true, b2, 0, 95, (List.replicate 5 0#64).map u64V, 0⟩)]) := by
   refine hGo ?_
   refine At.bStep [12, 16, 19] (by kernel_rfl) (by simp) ?_
   refine ⟨?_, ?_, ?_⟩
   ·
    refine At.bSQ (some 23) (Q_loadN (k := 0) (j := 5) (cs := (x2).map u64V) rfl rfl Try.underlying95 rfl sz95 rfl rfl rfl (seg_at (i := 1) rfl LN LN) LN) ?_
    exact At.into (hGi (hG0_8 b2)) rfl rfl
   ·
    refine At.bSQ (some 27) (Q_loadN (k := 0) (j := 10) (cs := (z2).map u64V) rfl rfl Try.underlying95 rfl sz95 rfl rfl rfl (seg_at (i := 2) rfl LN LN) LN) ?_
    exact At.into (hGi (hG0_10 b2)) rfl rfl
   ·
    refine At.bS false (by kernel_rfl) (S_alloc (some 3) 3 (zs := (List.replicate 5 0#64).map u64V) rfl ze95 rfl (fun b3 => ?_))
    exact At.into (hGi (hG0_12 b2 b3)) rfl rfl
  have hG0_16 (b3 : Nat) : G 6 #[true, true, true, true, true, true, true, true, true, true, true, true, false, true, true, true, false, false, false, true, false, false] (frOf [(0, ptr bl 0), (3, ptr b3 0), (19, .agg ((addC x2 z2).map u64V).toArray), (22, ptr bl 5), (26, ptr bl 10)]) (hOf [(0, ⟨true, bl, 0, 99, [(x1).map u64V, (x2).map u64V, (z2).map u64V, (x3).map u64V, (z3).map u64V].flatten, 0⟩), (3, ⟨true, b3, 0, 95, (List.replicate 5 0#64).map u64V, 0⟩)]) := by
   refine hGo ?_
   refine At.bStep [12, 16, 18] (by kernel_rfl) (by simp) ?_
   refine ⟨?_, ?_, ?_⟩
   ·
    refine At.bSQ (some 23) (Q_loadN (k := 0) (j := 5) (cs := (x2).map u64V) rfl rfl Try.underlying95 rfl sz95 rfl rfl rfl (seg_at (i := 1) rfl LN LN) LN) ?_
    exact At.into (hGi (hG0_9 b3)) rfl rfl
   ·
    refine At.bSQ (some 27) (Q_loadN (k := 0) (j := 10) (cs := (z2).map u64V) rfl rfl Try.underlying95 rfl sz95 rfl rfl rfl (seg_at (i := 2) rfl LN LN) LN) ?_
    exact At.into (hGi (hG0_11 b3)) rfl rfl
   ·
    refine At.bS false (by kernel_rfl) (S_alloc (some 2) 2 (zs := (List.replicate 5 0#64).map u64V) rfl ze95 rfl (fun b2 => ?_))
    exact At.into (hGi (hG0_12 b2 b3)) rfl rfl
  have hG0_17  : G 7 #[true, true, true, true, true, true, true, true, true, true, true, true, false, true, true, true, false, false, false, false, false, false] (frOf [(0, ptr bl 0), (19, .agg ((addC x2 z2).map u64V).toArray), (22, ptr bl 5), (26, ptr bl 10)]) (hOf [(0, ⟨true, bl, 0, 99, [(x1).map u64V, (x2).map u64V, (z2).map u64V, (x3).map u64V, (z3).map u64V].flatten, 0⟩)]) := by
   refine hGo ?_
   refine At.bStep [12, 16, 18, 19] (by kernel_rfl) (by simp) ?_
   refine ⟨?_, ?_, ?_, ?_⟩
   ·
    refine At.bSQ (some 23) (Q_loadN (k := 0) (j := 5) (cs := (x2).map u64V) rfl rfl Try.underlying95 rfl sz95 rfl rfl rfl (seg_at (i := 1) rfl LN LN) LN) ?_
    exact At.into (hGi (hG0_13 )) rfl rfl
   ·
    refine At.bSQ (some 27) (Q_loadN (k := 0) (j := 10) (cs := (z2).map u64V) rfl rfl Try.underlying95 rfl sz95 rfl rfl rfl (seg_at (i := 2) rfl LN LN) LN) ?_
    exact At.into (hGi (hG0_14 )) rfl rfl
   ·
    refine At.bS false (by kernel_rfl) (S_alloc (some 2) 2 (zs := (List.replicate 5 0#64).map u64V) rfl ze95 rfl (fun b2 => ?_))
    exact At.into (hGi (hG0_15 b2)) rfl rfl
   ·
    refine At.bS false (by kernel_rfl) (S_alloc (some 3) 3 (zs := (List.replicate 5 0#64).map u64V) rfl ze95 rfl (fun b3 => ?_))
    exact At.into (hGi (hG0_16 b3)) rfl rfl
  refine hGo ?_
  refine At.bP  0 (some 11) (P_move rfl rfl) (by kernel_rfl) (by kernel_rfl) ?_
  refine At.bP  1 (some 12) (P_nilCheck rfl rfl) (by kernel_rfl) (by kernel_rfl) ?_
  refine At.bP  2 (some 13) (P_fieldAddr0 (off := 5) rfl Try.underlying99 rfl sz95 rfl rfl) (by kernel_rfl) (by kernel_rfl) ?_
  refine At.bQ  3 (some 14) (Q_loadN (k := 0) (j := 5) (cs := (x2).map u64V) rfl rfl Try.underlying95 rfl sz95 rfl rfl rfl (seg_at (i := 1) rfl LN LN) LN) (by kernel_rfl) (by kernel_rfl) ?_
  refine At.bP  4 (some 15) (P_move rfl rfl) (by kernel_rfl) (by kernel_rfl) ?_
  refine At.bP  5 (some 16) (P_nilCheck rfl rfl) (by kernel_rfl) (by kernel_rfl) ?_
  refine At.bP  6 (some 17) (P_fieldAddr0 (off := 10) rfl Try.underlying99 rfl sz95 rfl rfl) (by kernel_rfl) (by kernel_rfl) ?_
  refine At.bQ  7 (some 18) (Q_loadN (k := 0) (j := 10) (cs := (z2).map u64V) rfl rfl Try.underlying95 rfl sz95 rfl rfl rfl (seg_at (i := 2) rfl LN LN) LN) (by kernel_rfl) (by kernel_rfl) ?_
  refine At.bC  8 (some 19) [] (vs := [_, _]) (by kernel_rfl) (by kernel_rfl) rfl en98 rfl V0 (c_add (a := x2) (b := z2) LN LN BD BD) ?_
  refine At.bP  9 (some 20) (P_move rfl rfl) (by kernel_rfl) (by kernel_rfl) ?_
  refine At.bP  10 (some 21) (P_nilCheck rfl rfl) (by kernel_rfl) (by kernel_rfl) ?_
  refine At.bP  11 (some 22) (P_fieldAddr0 (off := 5) rfl Try.underlying99 rfl sz95 rfl rfl) (by kernel_rfl) (by kernel_rfl) ?_
  refine At.bP  13 (some 24) (P_move rfl rfl) (by kernel_rfl) (by kernel_rfl) ?_
  refine At.bP  14 (some 25) (P_nilCheck rfl rfl) (by kernel_rfl) (by kernel_rfl) ?_
  refine At.bP  15 (some 26) (P_fieldAddr0 (off := 10) rfl Try.underlying99 rfl sz95 rfl rfl) (by kernel_rfl) (by kernel_rfl) ?_
  exact At.into (hGi (hG0_17 )) rfl rfl
 ·
  rintro fr H ⟨b2, b3, rfl, rfl, -⟩
  refine At.next ?_
  refine At.seq ?_
  have := subC_len x3 z3
  have := mulC_len (subC x3 z3) (addC x2 z2)
  have := addC_len x3 z3
  have := mulC_len (addC x3 z3) (subC x2 z2)
  refine At.bBruteG [24, 25] (fun fr H => ∃ (b4 : Nat) (b5 : Nat), fr = frOf [(0, ptr bl 0), (2, ptr b2 0), (3, ptr b3 0), (4, ptr b4 0), (5, ptr b5 0)] ∧ H = hOf [(0, ⟨true, bl, 0, 99, [(x1).map u64V, (x2).map u64V, (z2).map u64V, (x3).map u64V, (z3).map u64V].flatten, 0⟩), (2, ⟨true, b2, 0, 95, (addC x2 z2).map u64V, 0⟩), (3, ⟨true, b3, 0, 95, (subC x2 z2).map u64V, 0⟩), (4, ⟨true, b4, 0, 95, (mulC (subC x3 z3) (addC x2 z2)).map u64V, 0⟩), (5, ⟨true, b5, 0, 95, (mulC (addC x3 z3) (subC x2 z2)).map u64V, 0⟩)] ∧ True) (by kernel_rfl) ?_ ?_
  ·
   intro Kb hKb G hGi hGo
   have hG1_0 (b4 : Nat) (b5 : Nat) : G 0 #[true, true, true, true, true, true, true, true, true, true, true, true, true, true, true, true, true, true, true, true, true, true, true, true, true, true] (frOf [(0, ptr bl 0), (2, ptr b2 0), (3, ptr b3 0), (4, ptr b4 0), (5, ptr b5 0)]) (hOf [(0, ⟨true, bl, 0, 99, [(x1).map u64V, (x2).map u64V, (z2).map u64V, (x3).map u64V, (z3).map u64V].flatten, 0⟩), (2, ⟨true, b2, 0, 95, (addC x2 z2).map u64V, 0⟩), (3, ⟨true, b3, 0, 95, (subC x2 z2).map u64V, 0⟩), (4, ⟨true, b4, 0, 95, (mulC (subC x3 z3) (addC x2 z2)).map u64V, 0⟩), (5, ⟨true, b5, 0, 95, (mulC (addC x3 z3) (subC x2 z2)).map u64V, 0⟩)]) := by
    refine hGo ?_
    refine At.bEnd (by kernel_rfl) ?_
    refine At.next ?_
    exact hKb _ _ ⟨b4, b5, rfl, rfl, trivial⟩
   have hG1_1 (b4 : Nat) (b5 : Nat) : G 1 #[true, true, true, true, true, true, true, true, true, true, true, true, true, true, true, true, true, true, true, true, true, true, true, true, true, false] (frOf [(0, ptr bl 0), (2, ptr b2 0), (3, ptr b3 0), (4, ptr b4 0), (5, ptr b5 0), (50, .agg ((mulC (addC x3 z3) (subC x2 z2)).map u64V).toArray)]) (hOf [(0, ⟨true, bl, 0, 99, [(x1).map u64V, (x2).map u64V, (z2).map u64V, (x3).map u64V, (z3).map u64V].flatten, 0⟩), (2, ⟨true, b2, 0, 95, (addC x2 z2).map u64V, 0⟩), (3, ⟨true, b3, 0, 95, (subC x2 z2).map u64V, 0⟩), (4, ⟨true, b4, 0, 95, (mulC (subC x3 z3) (addC x2 z2)).map u64V, 0⟩), (5, ⟨true, b5, 0, 95, (List.replicate 5 0#64).map u64V, 0⟩)]) := by
    refine hGo ?_
    refine At.bStep [25] (by kernel_rfl) (by simp) ?_
    refine At.bS true (by kernel_rfl) (S_storeA none (k := 5) (vs := (mulC (addC x3 z3) (subC x2 z2)).map u64V) rfl rfl rfl (by rw [sz95]; exact congrArg some LN) rfl (one_map (fun _ => rfl)) NG rfl LN ?_)
    exact At.into (hGi (hG1_0 b4 b5)) rfl rfl
   have hG1_2 (b4 : Nat) (b5 : Nat) : G 2 #[true, true, true, true, true, true, true, true, true, true, true, true, true, true, true, true, true, true, true, true, true, true, true, true, false, false] (frOf [(0, ptr bl 0), (2, ptr b2 0), (3, ptr b3 0), (4, ptr b4 0), (5, ptr b5 0), (39, .agg ((mulC (subC x3 z3) (addC x2 z2)).map u64V).toArray), (50, .agg ((mulC (addC x3 z3) (subC x2 z2)).map u64V).toArray)]) (hOf [(0, ⟨true, bl, 0, 99, [(x1).map u64V, (x2).map u64V, (z2).map u64V, (x3).map u64V, (z3).map u64V].flatten, 0⟩), (2, ⟨true, b2, 0, 95, (addC x2 z2).map u64V, 0⟩), (3, ⟨true, b3, 0, 95, (subC x2 z2).map u64V, 0⟩), (4, ⟨true, b4, 0, 95, (List.replicate 5 0#64).map u64V, 0⟩), (5, ⟨true, b5, 0, 95, (List.replicate 5 0#64).map u64V, 0⟩)]) := by
    refine hGo ?_
    refine At.bStep [24] (by kernel_rfl) (by simp) ?_
    refine At.bS true (by kernel_rfl) (S_storeA none (k := 4) (vs := (mulC (subC x3 z3) (addC x2 z2)).map u64V) rfl rfl rfl (by rw [sz95]; exact congrArg some LN) rfl (one_map (fun _ => rfl)) NG rfl LN ?_)
    exact At.into (hGi (hG1_1 b4 b5)) rfl rfl
   have hG1_3 (b4 : Nat) : G 3 #[true, true, true, true, true, true, true, true, true, true, true, true, true, true, true, true, true, true, true, true, true, true, true, false, false, false] (frOf [(0, ptr bl 0), (2, ptr b2 0), (3, ptr b3 0), (4, ptr b4 0), (39, .agg ((mulC (subC x3 z3) (addC x2 z2)).map u64V).toArray), (50, .agg ((mulC (addC x3 z3) (subC x2 z2)).map u64V).toArray)]) (hOf [(0, ⟨true, bl, 0, 99, [(x1).map u64V, (x2).map u64V, (z2).map u64V, (x3).map u64V, (z3).map u64V].flatten, 0⟩), (2, ⟨true, b2, 0, 95, (addC x2 z2).map u64V, 0⟩), (3, ⟨true, b3, 0, 95, (subC x2 z2).map u64V, 0⟩), (4, ⟨true, b4, 0, 95, (List.replicate 5 0#64).map u64V, 0⟩)]) := by
    refine hGo ?_
    refine At.bStep [23] (by kernel_rfl) (by simp) ?_
    refine At.bS false (by kernel_rfl) (S_alloc (some 5) 5 (zs := (List.replicate 5 0#64).map u64V) rfl ze95 rfl (fun b5 => ?_))
    exact At.into (hGi (hG1_2 b4 b5)) rfl rfl
   have hG1_4 (b5 : Nat) : G 3 #[true, true, true, true, true, true, true, true, true, true, true, true, true, true, true, true, true, true, true, true, true, true, false, true, false, false] (frOf [(0, ptr bl 0), (2, ptr b2 0), (3, ptr b3 0), (5, ptr b5 0), (39, .agg ((mulC (subC x3 z3) (addC x2 z2)).map u64V).toArray), (50, .agg ((mulC (addC x3 z3) (subC x2 z2)).map u64V).toArray)]) (hOf [(0, ⟨true, bl, 0, 99, [(x1).map u64V, (x2).map u64V, (z2).map u64V, (x3).map u64V, (z3).map u64V].flatten, 0⟩), (2, ⟨true, b2, 0, 95, (addC x2 z2).map u64V, 0⟩), (3, ⟨true, b3, 0, 95, (subC x2 z2).map u64V, 0⟩), (5, ⟨true, b5, 0, 95, (List.replicate 5 0#64).map u64V, 0⟩)]) := by
    refine hGo ?_
    refine At.bStep [22] (by kernel_rfl) (by simp) ?_
    refine At.bS false (by kernel_rfl) (S_alloc (some 4) 4 (zs := (List.replicate 5 0#64).map u64V) rfl ze95 rfl (fun b4 => ?_))
    exact At.into (hGi (hG1_2 b4 b5)) rfl rfl
   have hG1_5  : G 4 #[true, true, true, true, true, true, true, true, true, true, true, true, true, true, true, true, true, true, true, true, true, true, false, false, false, false] (frOf [(0, ptr bl 0), (2, ptr b2 0), (3, ptr b3 0), (39, .agg ((mulC (subC x3 z3) (addC x2 z2)).map u64V).toArray), (50, .agg ((mulC (addC x3 z3) (subC x2 z2)).map u64V).toArray)]) (hOf [(0, ⟨true, bl, 0, 99, [(x1).map u64V, (x2).map u64V, (z2).map u64V, (x3).map u64V, (z3).map u64V].flatten, 0⟩), (2, ⟨true, b2, 0, 95, (addC x2 z2).map u64V, 0⟩), (3, ⟨true, b3, 0, 95, (subC x2 z2).map u64V, 0⟩)]) := by
    refine hGo ?_
    refine At.bStep [22, 23] (by kernel_rfl) (by simp) ?_
    refine ⟨?_, ?_⟩
    ·
     refine At.bS false (by kernel_rfl) (S_alloc (some 4) 4 (zs := (List.replicate 5 0#64).map u64V) rfl ze95 rfl (fun b4 => ?_))
     exact At.into (hGi (hG1_3 b4)) rfl rfl
    ·
     refine At.bS false (by kernel_rfl) (S_alloc (some 5) 5 (zs := (List.replicate 5 0#64).map u64V) rfl ze95 rfl (fun b5 => ?_))
     exact At.into (hGi (hG1_4 b5)) rfl rfl
   have hG1_6 (b4 : Nat) (b5 : Nat) : G 4 #[true, true, true, true, true, true, true, true, true, true, true, true, true, true, true, true, true, true, true, true, false, false, true, true, false, false] (frOf [(0, ptr bl 0), (2, ptr b2 0), (3, ptr b3 0), (4, ptr b4 0), (5, ptr b5 0), (39, .agg ((mulC (subC x3 z3) (addC x2 z2)).map u64V).toArray), (48, .agg ((addC x3 z3).map u64V).toArray)]) (hOf [(0, ⟨true, bl, 0, 99, [(x1).map u64V, (x2).map u64V, (z2).map u64V, (x3).map u64V, (z3).map u64V].flatten, 0⟩), (2, ⟨true, b2, 0, 95, (addC x2 z2).map u64V, 0⟩), (3, ⟨true, b3, 0, 95, (subC x2 z2).map u64V, 0⟩), (4, ⟨true, b4, 0, 95, (List.replicate 5 0#64).map u64V, 0⟩), (5, ⟨true, b5, 0, 95, (List.replicate 5 0#64).map u64V, 0⟩)]) := by
    refine hGo ?_
    refine At.bStep [20] (by kernel_rfl) (by simp) ?_
    refine At.bSQ (some 49) (Q_loadA (k := 3) rfl rfl Try.underlying95 rfl sz95 LN rfl) ?_
    refine At.bC  21 (some 50) [] (vs := [_, _]) (by kernel_rfl) (by kernel_rfl) rfl en54 rfl V0 (c_mulC (a := (addC x3 z3)) (b := (subC x2 z2)) LN LN BD BD) ?_
    exact At.into (hGi (hG1_2 b4 b5)) rfl rfl
   have hG1_7 (b4 : Nat) (b5 : Nat) : G 4 #[true, true, true, true, true, true, true, true, true, true, true, true, true, true, true, true, true, true, true, false, true, false, true, true, false, false] (frOf [(0, ptr bl 0), (2, ptr b2 0), (3, ptr b3 0), (4, ptr b4 0), (5, ptr b5 0), (39, .agg ((mulC (subC x3 z3) (addC x2 z2)).map u64V).toArray), (43, .agg ((x3).map u64V).toArray), (47, .agg ((z3).map u64V).toArray), (49, .agg ((subC x2 z2).map u64V).toArray)]) (hOf [(0, ⟨true, bl, 0, 99, [(x1).map u64V, (x2).map u64V, (z2).map u64V, (x3).map u64V, (z3).map u64V].flatten, 0⟩), (2, ⟨true, b2, 0, 95, (addC x2 z2).map u64V, 0⟩), (3, ⟨true, b3, 0, 95, (subC x2 z2).map u64V, 0⟩), (4, ⟨true, b4, 0, 95, (List.replicate 5 0#64).map u64V, 0⟩), (5, ⟨true, b5, 0, 95, (List.replicate 5 0#64).map u64V, 0⟩)]) := by
    refine hGo ?_
    refine At.bStep [19] (by kernel_rfl) (by simp) ?_
    refine At.bS false (by kernel_rfl) (S_callV (some 48) [] [] (vs := [_, _]) rfl en98 rfl V0 (by simp) (c_add (a := x3) (b := z3) LN LN BD BD) (by rintro _ _ ⟨rfl, rfl⟩; rfl) ?_)
    rintro _ _ ⟨rfl, rfl⟩
    refine At.bC  21 (some 50) [] (vs := [_, _]) (by kernel_rfl) (by kernel_rfl) rfl en54 rfl V0 (c_mulC (a := (addC x3 z3)) (b := (subC x2 z2)) LN LN BD BD) ?_
    exact At.into (hGi (hG1_2 b4 b5)) rfl rfl
   have hG1_8 (b4 : Nat) : G 5 #[true, true, true, true, true, true, true, true, true, true, true, true, true, true, true, true, true, true, true, true, false, false, true, false, false, false] (frOf [(0, ptr bl 0), (2, ptr b2 0), (3, ptr b3 0), (4, ptr b4 0), (39, .agg ((mulC (subC x3 z3) (addC x2 z2)).map u64V).toArray), (48, .agg ((addC x3 z3).map u64V).toArray)]) (hOf [(0, ⟨true, bl, 0, 99, [(x1).map u64V, (x2).map u64V, (z2).map u64V, (x3).map u64V, (z3).map u64V].flatten, 0⟩), (2, ⟨true, b2, 0, 95, (addC x2 z2).map u64V, 0⟩), (3, ⟨true, b3, 0, 95, (subC x2 z2).map u64V, 0⟩), (4, ⟨true, b4, 0, 95, (List.replicate 5 0#64).map u64V, 0⟩)]) := by
    refine hGo ?_
    refine At.bStep [20, 23] (by kernel_rfl) (by simp) ?_
    refine ⟨?_, ?_⟩
    ·
     refine At.bSQ (some 49) (Q_loadA (k := 3) rfl rfl Try.underlying95 rfl sz95 LN rfl) ?_
     refine At.bC  21 (some 50) [] (vs := [_, _]) (by kernel_rfl) (by kernel_rfl) rfl en54 rfl V0 (c_mulC (a := (addC x3 z3)) (b := (subC x2 z2)) LN LN BD BD) ?_
     exact At.into (hGi (hG1_3 b4)) rfl rfl
    ·
     refine At.bS false (by kernel_rfl) (S_alloc (some 5) 5 (zs := (List.replicate 5 0#64).map u64V) rfl ze95 rfl (fun b5 => ?_))
     exact At.into (hGi (hG1_6 b4 b5)) rfl rfl
   have hG1_9 (b5 : Nat) : G 5 #[true, true, true, true, true, true, true, true, true, true, true, true, true, true, true, true, true, true, true, true, false, false, false, true, false, false] (frOf [(0, ptr bl 0), (2, ptr b2 0), (3, ptr b3 0), (5, ptr b5 0), (39, .agg ((mulC (subC x3 z3) (addC x2 z2)).map u64V).toArray), (48, .agg ((addC x3 z3).map u64V).toArray)]) (hOf [(0, ⟨true, bl, 0, 99, [(x1).map u64V, (x2).map u64V, (z2).map u64V, (x3).map u64V, (z3).map u64V].flatten, 0⟩), (2, ⟨true, b2, 0, 95, (addC x2 z2).map u64V, 0⟩), (3, ⟨true, b3, 0, 95, (subC x2 z2).map u64V, 0⟩), (5, ⟨true, b5, 0, 95, (List.replicate 5 0#64).map u64V, 0⟩)]) := by
    refine hGo ?_
    refine At.bStep [20, 22] (by kernel_rfl) (by simp) ?_
    refine ⟨?_, ?_⟩
    ·
     refine At.bSQ (some 49) (Q_loadA (k := 3) rfl rfl Try.underlying95 rfl sz95 LN rfl) ?_
     refine At.bC  21 (some 50) [] (vs := [_, _]) (by kernel_rfl) (by kernel_rfl) rfl en54 rfl V0 (c_mulC (a := (addC x3 z3)) (b := (subC x2 z2)) LN LN BD BD) ?_
     exact At.into (hGi (hG1_4 b5)) rfl rfl
    ·
     refine At.bS false (by kernel_rfl) (S_alloc (some 4) 4 (zs := (List.replicate 5 0#64).map u64V) rfl ze95 rfl (fun b4 => ?_))
     exact At.into (hGi (hG1_6 b4 b5)) rfl rfl
   have hG1_10 (b4 : Nat) : G 5 #[true, true, true, true, true, true, true, true, true, true, true, true, true, true, true, true, true, true, true, false, true, false, true, false, false, false] (frOf [(0, ptr bl 0), (2, ptr b2 0), (3, ptr b3 0), (4, ptr b4 0), (39, .agg ((mulC (subC x3 z3) (addC x2 z2)).map u64V).toArray), (43, .agg ((x3).map u64V).toArray), (47, .agg ((z3).map u64V).toArray), (49, .agg ((subC x2 z2).map u64V).toArray)]) (hOf [(0, ⟨true, bl, 0, 99, [(x1).map u64V, (x2).map u64V, (z2).map u64V, (x3).map u64V, (z3).map u64V].flatten, 0⟩), (2, ⟨true, b2, 0, 95, (addC x2 z2).map u64V, 0⟩), (3, ⟨true, b3, 0, 95, (subC x2 z2).map u64V, 0⟩), (4, ⟨true, b4, 0, 95, (List.replicate 5 0#64).map u64V, 0⟩)]) := by
    refine hGo ?_
    refine At.bStep [19, 23] (by kernel_rfl) (by simp) ?_
    refine ⟨?_, ?_⟩
    ·
     refine At.bS false (by kernel_rfl) (S_callV (some 48) [] [] (vs := [_, _]) rfl en98 rfl V0 (by simp) (c_add (a := x3) (b := z3) LN LN BD BD) (by rintro _ _ ⟨rfl, rfl⟩; rfl) ?_)
     rintro _ _ ⟨rfl, rfl⟩
     refine At.bC  21 (some 50) [] (vs := [_, _]) (by kernel_rfl) (by kernel_rfl) rfl en54 rfl V0 (c_mulC (a := (addC x3 z3)) (b := (subC x2 z2)) LN LN BD BD) ?_
     exact At.into (hGi (hG1_3 b4)) rfl rfl
    ·
     refine At.bS false (by kernel_rfl) (S_alloc (some 5) 5 (zs := (List.replicate 5 0#64).map u64V) rfl ze95 rfl (fun b5 => ?_))
     exact At.into (hGi (hG1_7 b4 b5)) rfl rfl
   have hG1_11 (b5 : Nat) : G 5 #[true, true, true, true, true, true, true, true, true, true, true, true, true, true, true, true, true, true, true, false, true, false, false, true, false, false] (frOf [(0, ptr bl 0), (2, ptr b2 0), (3, ptr b3 0), (5, ptr b5 0), (39, .agg ((mulC (subC x3 z3) (addC x2 z2)).map u64V).toArray), (43, .agg ((x3).map u64V).toArray), (47, .agg ((z3).map u64V).toArray), (49, .agg ((subC x2 z2).map u64V).toArray)]) (hOf [(0, ⟨true, bl, 0, 99, [(x1).map u64V, (x2).map u64V, (z2).map u64V, (x3).map u64V, (z3).map u64V].flatten, 0⟩), (2, ⟨true, b2, 0, 95, (addC x2 z2).map u64V, 0⟩), (3, ⟨true, b3, 0, 95, (subC x2 z2).map u64V, 0⟩), (5, ⟨true, b5, 0, 95, (List.replicate 5 0#64).map u64V, 0⟩)]) := by
    refine hGo ?_
    refine At.bStep [19, 22] (by kernel_rfl) (by simp) ?_
    refine ⟨?_, ?_⟩
    ·
     refine At.bS false (by kernel_rfl) (S_callV (some 48) [] [] (vs := [_, _]) rfl en98 rfl V0 (by simp) (c_add (a := x3) (b := z3) LN LN BD BD) (by rintro _ _ ⟨rfl, rfl⟩; rfl) ?_)
     rintro _ _ ⟨rfl, rfl⟩
     refine At.bC  21 (some 50) [] (vs := [_, _]) (by kernel_rfl) (by kernel_rfl) rfl en54 rfl V0 (c_mulC (a := (addC x3 z3)) (b := (subC x2 z2)) LN LN BD BD) ?_
     exact At.into (hGi (hG1_4 b5)) rfl rfl
    ·
     refine At.bS false (by kernel_rfl) (S_alloc (some 4) 4 (zs := (List.replicate 5 0#64).map u64V) rfl ze95 rfl (fun b4 => ?_))
     exact At.into (hGi (hG1_7 b4 b5)) rfl rfl
   have hG1_12 (b4 : Nat) (b5 : Nat) : G 5 #[true, true, true, true, true, true, true, true, true, true, true, true, true, true, true, true, true, true, true, false, false, false, true, true, false, false] (frOf [(0, ptr bl 0), (2, ptr b2 0), (3, ptr b3 0), (4, ptr b4 0), (5, ptr b5 0), (39, .agg ((mulC (subC x3 z3) (addC x2 z2)).map u64V).toArray), (43, .agg ((x3).map u64V).toArray), (47, .agg ((z3).map u64V).toArray)]) (hOf [(0, ⟨true, bl, 0, 99, [(x1).map u64V, (x2).map u64V, (z2).map u64V, (x3).map u64V, (z3).map u64V].flatten, 0⟩), (2, ⟨true, b2, 0, 95, (addC x2 z2).map u64V, 0⟩), (3, ⟨true, b3, 0, 95, (subC x2 z2).map u64V, 0⟩), (4, ⟨true, b4, 0, 95, (List.replicate 5 0#64).map u64V, 0⟩), (5, ⟨true, b5, 0, 95, (List.replicate 5 0#64).map u64V, 0⟩)]) := by
    refine hGo ?_
    refine At.bStep [19, 20] (by kernel_rfl) (by simp) ?_
    refine ⟨?_, ?_⟩
    ·
     refine At.bS false (by kernel_rfl) (S_callV (some 48) [] [] (vs := [_, _]) rfl en98 rfl V0 (by simp) (c_add (a := x3) (b := z3) LN LN BD BD) (by rintro _ _ ⟨rfl, rfl⟩; rfl) ?_)
     rintro _ _ ⟨rfl, rfl⟩
     exact At.into (hGi (hG1_6 b4 b5)) rfl rfl
    ·
     refine At.bSQ (some 49) (Q_loadA (k := 3) rfl rfl Try.underlying95 rfl sz95 LN rfl) ?_
     exact At.into (hGi (hG1_7 b4 b5)) rfl rfl
   have hG1_13 (b4 : Nat) (b5 : Nat) : G 5 #[true, true, true, true, true, true, true, true, true, true, true, true, true, true, true, true, true, true, false, false, true, false, true, true, false, false] (frOf [(0, ptr bl 0), (2, ptr b2 0), (3, ptr b3 0), (4, ptr b4 0), (5, ptr b5 0), (39, .agg ((mulC (subC x3 z3) (addC x2 z2)).map u64V).toArray), (43, .agg ((x3).map u64V).toArray), (46, ptr bl 20), (49, .agg ((subC x2 z2).map u64V).toArray)]) (hOf [(0, ⟨true, bl, 0, 99, [(x1).map u64V, (x2).map u64V, (z2).map u64V, (x3).map u64V, (z3).map u64V].flatten, 0⟩), (2, ⟨true, b2, 0, 95, (addC x2 z2).map u64V, 0⟩), (3, ⟨true, b3, 0, 95, (subC x2 z2).map u64V, 0⟩), (4, ⟨true, b4, 0, 95, (List.replicate 5 0#64).map u64V, 0⟩), (5, ⟨true, b5, 0, 95, (List.replicate 5 0#64).map u64V, 0⟩)]) := by
    refine hGo ?_
    refine At.bStep [18] (by kernel_rfl) (by simp) ?_
    refine At.bSQ (some 47) (Q_loadN (k := 0) (j := 20) (cs := (z3).map u64V) rfl rfl Try.underlying95 rfl sz95 rfl rfl rfl (seg_at (i := 4) rfl LN LN) LN) ?_
    exact At.into (hGi (hG1_7 b4 b5)) rfl rfl
   have hG1_14 (b4 : Nat) (b5 : Nat) : G 5 #[true, true, true, true, true, true, true, true, true, true, true, true, true, true, false, true, true, true, true, false, true, false, true, true, false, false] (frOf [(0, ptr bl 0), (2, ptr b2 0), (3, ptr b3 0), (4, ptr b4 0), (5, ptr b5 0), (39, .agg ((mulC (subC x3 z3) (addC x2 z2)).map u64V).toArray), (42, ptr bl 15), (47, .agg ((z3).map u64V).toArray), (49, .agg ((subC x2 z2).map u64V).toArray)]) (hOf [(0, ⟨true, bl, 0, 99, [(x1).map u64V, (x2).map u64V, (z2).map u64V, (x3).map u64V, (z3).map u64V].flatten, 0⟩), (2, ⟨true, b2, 0, 95, (addC x2 z2).map u64V, 0⟩), (3, ⟨true, b3, 0, 95, (subC x2 z2).map u64V, 0⟩), (4, ⟨true, b4, 0, 95, (List.replicate 5 0#64).map u64V, 0⟩), (5, ⟨true, b5, 0, 95, (List.replicate 5 0#64).map u64V, 0⟩)]) := by
    refine hGo ?_
    refine At.bStep [14] (by kernel_rfl) (by simp) ?_
    refine At.bSQ (some 43) (Q_loadN (k := 0) (j := 15) (cs := (x3).map u64V) rfl rfl Try.underlying95 rfl sz95 rfl rfl rfl (seg_at (i := 3) rfl LN LN) LN) ?_
    exact At.into (hGi (hG1_7 b4 b5)) rfl rfl
   have hG1_15  : G 6 #[true, true, true, true, true, true, true, true, true, true, true, true, true, true, true, true, true, true, true, true, false, false, false, false, false, false] (frOf [(0, ptr bl 0), (2, ptr b2 0), (3, ptr b3 0), (39, .agg ((mulC (subC x3 z3) (addC x2 z2)).map u64V).toArray), (48, .agg ((addC x3 z3).map u64V).toArray)]) (hOf [(0, ⟨true, bl, 0, 99, [(x1).map u64V, (x2).map u64V, (z2).map u64V, (x3).map u64V, (z3).map u64V].flatten, 0⟩), (2, ⟨true, b2, 0, 95, (addC x2 z2).map u64V, 0⟩), (3, ⟨true, b3, 0, 95, (subC x2 z2).map u64V, 0⟩)]) := by
    refine hGo ?_
    refine At.bStep [20, 22, 23] (by kernel_rfl) (by simp) ?_
    refine ⟨?_, ?_, ?_⟩
    ·
     refine At.bSQ (some 49) (Q_loadA (k := 3) rfl rfl Try.underlying95 rfl sz95 LN rfl) ?_
     refine At.bC  21 (some 50) [] (vs := [_, _]) (by kernel_rfl) (by kernel_rfl) rfl en54 rfl V0 (c_mulC (a := (addC x3 z3)) (b := (subC x2 z2)) LN LN BD BD) ?_
     exact At.into (hGi (hG1_5 )) rfl rfl
    ·
     refine At.bS false (by kernel_rfl) (S_alloc (some 4) 4 (zs := (List.replicate 5 0#64).map u64V) rfl ze95 rfl (fun b4 => ?_))
     exact At.into (hGi (hG1_8 b4)) rfl rfl
    ·
     refine At.bS false (by kernel_rfl) (S_alloc (some 5) 5 (zs := (List.replicate 5 0#64).map u64V) rfl ze95 rfl (fun b5 => ?_))
     exact At.into (hGi (hG1_9 b5)) rfl rfl
   have hG1_16  : G 6 #[true, true, true, true, true, true, true, true, true, true, true, true, true, true, true, true, true, true, true, false, true, false, false, false, false, false] (frOf [(0, ptr bl 0), (2, ptr b2 0), (3, ptr b3 0), (39, .agg ((mulC (subC x3 z3) (addC x2 z2)).map u64V).toArray), (43, .agg ((x3).map u64V).toArray), (47, .agg ((z3).map u64V).toArray), (49, .agg ((subC x2 z2).map u64V).toArray)]) (hOf [(0, ⟨true, bl, 0, 99, [(x1).map u64V, (x2).map u64V, (z2).map u64V, (x3).map u64V, (z3).map u64V].flatten, 0⟩), (2, ⟨true, b2, 0, 95, (addC x2 z2).map u64V, 0⟩), (3, ⟨true, b3, 0, 95, (subC x2 z2).map u64V, 0⟩)]) := by
    refine hGo ?_
    refine At.bStep [19, 22, 23] (by kernel_rfl) (by simp) ?_
    refine ⟨?_, ?_, ?_⟩
    ·
     refine At.bS false (by kernel_rfl) (S_callV (some 48) [] [] (vs := [_, _]) rfl en98 rfl V0 (by simp) (c_add (a := x3) (b := z3) LN LN BD BD) (by rintro _ _ ⟨rfl, rfl⟩; rfl) ?_)
     rintro _ _ ⟨rfl, rfl⟩
     refine At.bC  21 (some 50) [] (vs := [_, _]) (by kernel_rfl) (by kernel_rfl) rfl en54 rfl V0 (c_mulC (a := (addC x3 z3)) (b := (subC x2 z2)) LN LN BD BD) ?_
     exact At.into (hGi (hG1_5 )) rfl rfl
    ·
     refine At.bS false (by kernel_rfl) (S_alloc (some 4) 4 (zs := (List.replicate 5 0#64).map u64V) rfl ze95 rfl (fun b4 => ?_))
     exact At.into (hGi (hG1_10 b4)) rfl rfl
    ·
     refine At.bS false (by kernel_rfl) (S_alloc (some 5) 5 (zs := (List.replicate 5 0#64).map u64V) rfl ze95 rfl (fun b5 => ?_))
     exact At.into (hGi (hG1_11 b5)) rfl rfl
   have hG1_17 (b4 : Nat) : G 6 #[true, true, true, true, true, true, true, true, true, true, true, true, true, true, true, true, true, true, true, false, false, false, true, false, false, false] (frOf [(0, ptr bl 0), (2, ptr b2 0), (3, ptr b3 0), (4, ptr b4 0), (39, .agg ((mulC (subC x3 z3) (addC x2 z2)).map u64V).toArray), (43, .agg ((x3).map u64V).toArray), (47, .agg ((z3).map u64V).toArray)]) (hOf [(0, ⟨true, bl, 0, 99, [(x1).map u64V, (x2).map u64V, (z2).map u64V, (x3).map u64V, (z3).map u64V].flatten, 0⟩), (2, ⟨true, b2, 0, 95, (addC x2 z2).map u64V, 0⟩), (3, ⟨true, b3, 0, 95, (subC x2 z2).map u64V, 0⟩), (4, ⟨true, b4, 0, 95, (List.replicate 5 0#64).map u64V, 0⟩)]) := by
    refine hGo ?_
    refine At.bStep [19, 20, 23] (by kernel_rfl) (by simp) ?_
    refine ⟨?_, ?_, ?_⟩
    ·
     refine At.bS false (by kernel_rfl) (S_callV (some 48) [] [] (vs := [_, _]) rfl en98 rfl V0 (by simp) (c_add (a := x3) (b := z3) LN LN BD BD) (by rintro _ _ ⟨rfl, rfl⟩; rfl) ?_)
     rintro _ _ ⟨rfl, rfl⟩
     exact At.into (hGi (hG1_8 b4)) rfl rfl
    ·
     refine At.bSQ (some 49) (Q_loadA (k := 3) rfl rfl Try.underlying95 rfl sz95 LN rfl) ?_
     exact At.into (hGi (hG1_10 b4)) rfl rfl
    ·
     refine At.bS false (by kernel_rfl) (S_alloc (some 5) 5 (zs := (List.replicate 5 0#64).map u64V) rfl ze95 rfl (fun b5 => ?_))
     exact At.into (hGi (hG1_12 b4 b5)) rfl rfl
   have hG1_18 (b5 : Nat) : G 6 #[true, true, true, true, true, true, true, true, true, true, true, true, true, true, true, true, true, true, true, false, false, false, false, true, false, false] (frOf [(0, ptr bl 0), (2, ptr b2 0), (3, ptr b3 0), (5, ptr b5 0), (39, .agg ((mulC (subC x3 z3) (addC x2 z2)).map u64V).toArray), (43, .agg ((x3).map u64V).toArray), (47, .agg ((z3).map u64V).toArray)]) (hOf [(0, ⟨true, bl, 0, 99, [(x1).map u64V, (x2).map u64V, (z2).map u64V, (x3).map u64V, (z3).map u64V].flatten, 0⟩), (2, ⟨true, b2, 0, 95, (addC x2 z2).map u64V, 0⟩), (3, ⟨true, b3, 0, 95, (subC x2 z2).map u64V, 0⟩), (5, ⟨true, b5, 0, 95, (List.replicate 5 0#64).map u64V, 0⟩)]) := by
    refine hGo ?_
    refine At.bStep [19, 20, 22] (by kernel_rfl) (by simp) ?_
    refine ⟨?_, ?_, ?_⟩
    ·
     refine At.bS false (by kernel_rfl) (S_callV (some 48) [] [] (vs := [_, _]) rfl en98 rfl V0 (by simp) (c_add (a := x3) (b := z3) LN LN BD BD) (by rintro _ _ ⟨rfl, rfl⟩; rfl) ?_)
     rintro _ _ ⟨rfl, rfl⟩
     exact At.into (hGi (hG1_9 b5)) rfl rfl
    ·
     refine At.bSQ (some 49) (Q_loadA (k := 3) rfl rfl Try.underlying95 rfl sz95 LN rfl) ?_
     exact At.into (hGi (hG1_11 b5)) rfl rfl
    ·
     refine At.bS false (by kernel_rfl) (S_alloc (some 4) 4 (zs := (List.replicate 5 0#64).map u64V) rfl ze95 rfl (fun b4 => ?_))
     exact At.into (hGi (hG1_12 b4 b5)) rfl rfl
   have hG1_19 (b4 : Nat) : G 6 #[true, true, true, true, true, true, true, true, true, true, true, true, true, true, true, true, true, true, false, false, true, false, true, false, false, false] (frOf [(0, ptr bl 0), (2, ptr b2 0), (3, ptr b3 0), (4, ptr b4 0), (39, .agg ((mulC (subC x3 z3) (addC x2 z2)).map u64V).toArray), (43, .agg ((x3).map u64V).toArray), (46, ptr bl 20), (49, .agg ((subC x2 z2).map u64V).toArray)]) (hOf [(0, ⟨true, bl, 0, 99, [(x1).map u64V, (x2).map u64V, (z2).map u64V, (x3).map u64V, (z3).map u64V].flatten, 0⟩), (2, ⟨true, b2, 0, 95, (addC x2 z2).map u64V, 0⟩), (3, ⟨true, b3, 0, 95, (subC x2 z2).map u64V, 0⟩), (4, ⟨true, b4, 0, 95, (List.replicate 5 0#64).map u64V, 0⟩)]) := by
    refine hGo ?_
    refine At.bStep [18, 23] (by kernel_rfl) (by simp) ?_
    refine ⟨?_, ?_⟩
    ·
     refine At.bSQ (some 47) (Q_loadN (k := 0) (j := 20) (cs := (z3).map u64V) rfl rfl Try.underlying95 rfl sz95 rfl rfl rfl (seg_at (i := 4) rfl LN LN) LN) ?_
     exact At.into (hGi (hG1_10 b4)) rfl rfl
    ·
     refine At.bS false (by kernel_rfl) (S_alloc (some 5) 5 (zs := (List.replicate 5 0#64).map u64V) rfl ze95 rfl (fun b5 => ?_))
     exact At.into (hGi (hG1_13 b4 b5)) rfl rfl
   have hG1_20 (b5 : Nat) : G 6 #[true, true, true, true, true, true, true, true, true, true, true, true, true, true, true, true, true, true, false, false, true, false, false, true, false, false] (frOf [(0, ptr bl 0), (2, ptr b2 0), (3, ptr b3 0), (5, ptr b5 0), (39, .agg ((mulC (subC x3 z3) (addC x2 z2)).map u64V).toArray), (43, .agg ((x3).map u64V).toArray), (46, ptr bl 20), (49, .agg ((subC x2 z2).map u64V).toArray)]) (hOf [(0, ⟨true, bl, 0, 99, [(x1).map u64V, (x2).map u64V, (z2).map u64V, (x3).map u64V, (z3).map u64V].flatten, 0⟩), (2, ⟨true, b2, 0, 95, (addC x2 z2).map u64V, 0⟩), (3, ⟨true, b3, 0, 95, (subC x2 z2).map u64V, 0⟩), (5, ⟨true, b5, 0, 95, (List.replicate 5 0#64).map u64V, 0⟩)]) := by
    refine hGo ?_
    refine At.bStep [18, 22] (by kernel_rfl) (by simp) ?_
    refine ⟨?_, ?_⟩
    ·
     refine At.bSQ (some 47) (Q_loadN (k := 0) (j := 20) (cs := (z3).map u64V) rfl rfl Try.underlying95 rfl sz95 rfl rfl rfl (seg_at (i := 4) rfl LN LN) LN) ?_
     exact At.into (hGi (hG1_11 b5)) rfl rfl
    ·
     refine At.bS false (by kernel_rfl) (S_alloc (some 4) 4 (zs := (List.replicate 5 0#64).map u64V) rfl ze95 rfl (fun b4 => ?_))
     exact At.into (hGi (hG1_13 b4 b5)) rfl rfl
   have hG1_21 (b4 : Nat) (b5 : Nat) : G 6 #[true, true, true, true, true, true, true, true, true, true, true, true, true, true, true, true, true, true, false, false, false, false, true, true, false, false] (frOf [(0, ptr bl 0), (2, ptr b2 0), (3, ptr b3 0), (4, ptr b4 0), (5, ptr b5 0), (39, .agg ((mulC (subC x3 z3) (addC x2 z2)).map u64V).toArray), (43, .agg ((x3).map u64V).toArray), (46, ptr bl 20)]) (hOf [(0, ⟨true, bl, 0, 99, [(x1).map u64V, (x2).map u64V, (z2).map u64V, (x3).map u64V, (z3).map u64V].flatten, 0⟩), (2, ⟨true, b2, 0, 95, (addC x2 z2).map u64V, 0⟩), (3, ⟨true, b3, 0, 95, (subC x2 z2).map u64V, 0⟩), (4, ⟨true, b4, 0, 95, (List.replicate 5 0#64).map u64V, 0⟩), (5, ⟨true, b5, 0, 95, (List.replicate 5 0#64).map u64V, 0⟩)]) := by
    refine hGo ?_
    refine At.bStep [18, 20] (by kernel_rfl) (by simp) ?_
    refine ⟨?_, ?_⟩
    ·
     refine At.bSQ (some 47) (Q_loadN (k := 0) (j := 20) (cs := (z3).map u64V) rfl rfl Try.underlying95 rfl sz95 rfl rfl rfl (seg_at (i := 4) rfl LN LN) LN) ?_
     exact At.into (hGi (hG1_12 b4 b5)) rfl rfl
    ·
     refine At.bSQ (some 49) (Q_loadA (k := 3) rfl rfl Try.underlying95 rfl sz95 LN rfl) ?_
     exact At.into (hGi (hG1_13 b4 b5)) rfl rfl
   have hG1_22 (b4 : Nat) : G 6 #[true, true, true, true, true, true, true, true, true, true, true, true, true, true, false, true, true, true, true, false, true, false, true, false, false, false] (frOf [(0, ptr bl 0), (2, ptr b2 0), (3, ptr b3 0), (4, ptr b4 0), (39, .agg ((mulC (subC x3 z3) (addC x2 z2)).map u64V).toArray), (42, ptr bl 15), (47, .agg ((z3).map u64V).toArray), (49, .agg ((subC x2 z2).map u64V).toArray)]) (hOf [(0, ⟨true, bl, 0, 99, [(x1).map u64V, (x2).map u64V, (z2).map u64V, (x3).map u64V, (z3).map u64V].flatten, 0⟩), (2, ⟨true, b2, 0, 95, (addC x2 z2).map u64V, 0⟩), (3, ⟨true, b3, 0, 95, (subC x2 z2).map u64V, 0⟩), (4, ⟨true, b4, 0, 95, (List.replicate 5 0#64).map u64V, 0⟩)]) := by
    refine hGo ?_
    refine At.bStep [14, 23] (by kernel_rfl) (by simp) ?_
    refine ⟨?_, ?_⟩
    ·
     refine At.bSQ (some 43) (Q_loadN (k := 0) (j := 15) (cs := (x3).map u64V) rfl rfl Try.underlying95 rfl sz95 rfl rfl rfl (seg_at (i := 3) rfl LN LN) LN) ?_
     exact At.into (hGi (hG1_10 b4)) rfl rfl
    ·
     refine At.bS false (by kernel_rfl) (S_alloc (some 5) 5 (zs := (List.replicate 5 0#64).map u64V) rfl ze95 rfl (fun b5 => ?_))
     exact At.into (hGi (hG1_14 b4 b5)) rfl rfl
   have hG1_23 (b5 : Nat) : G 6 #[true, true, true, true, true, true, true, true, true, true, true, true, true, true, false, true, true, true, true, false, true, false, false, true, false, false] (frOf [(0, ptr bl 0), (2, ptr b2 0), (3, ptr b3 0), (5, ptr b5 0), (39, .agg ((mulC (subC x3 z3) (addC x2 z2)).map u64V).toArray), (42, ptr bl 15), (47, .agg ((z3).map u64V).toArray), (49, .agg ((subC x2 z2).map u64V).toArray)]) (hOf [(0, ⟨true, bl, 0, 99, [(x1).map u64V, (x2).map u64V, (z2).map u64V, (x3).map u64V, (z3).map u64V].flatten, 0⟩), (2, ⟨true, b2, 0, 95, (addC x2 z2).map u64V, 0⟩), (3, ⟨true, b3, 0, 95, (subC x2 z2).map u64V, 0⟩), (5, ⟨true, b5, 0, 95, (List.replicate 5 0#64).map u64V, 0⟩)]) := by
    refine hGo ?_
    refine At.bStep [14, 22] (by kernel_rfl) (by simp) ?_
    refine ⟨?_, ?_⟩
    ·
     refine At.bSQ (some 43) (Q_loadN (k := 0) (j := 15) (cs := (x3).map u64V) rfl rfl Try.underlying95 rfl sz95 rfl rfl rfl (seg_at (i := 3) rfl LN LN) LN) ?_
     exact At.into (hGi (hG1_11 b5)) rfl rfl
    ·
     refine At.bS false (by kernel_rfl) (S_alloc (some 4) 4 (zs := (List.replicate 5 0#64).map u64V) rfl ze95 rfl (fun b4 => ?_))
     exact At.into (hGi (hG1_14 b4 b5)) rfl rfl
   have hG1_24 (b4 : Nat) (b5 : Nat) : G 6 #[true, true, true, true, true, true, true, true, true, true, true, true, true, true, false, true, true, true, true, false, false, false, true, true, false, false] (frOf [(0, ptr bl 0), (2, ptr b2 0), (3, ptr b3 0), (4, ptr b4 0), (5, ptr b5 0), (39, .agg ((mulC (subC x3 z3) (addC x2 z2)).map u64V).toArray), (42, ptr bl 15), (47, .agg ((z3).map u64V).toArray)]) (hOf [(0, ⟨true, bl, 0, 99, [(x1).map u64V, (x2).map u64V, (z2).map u64V, (x3).map u64V, (z3).map u64V].flatten, 0⟩), (2, ⟨true, b2, 0, 95, (addC x2 z2).map u64V, 0⟩), (3, ⟨true, b3, 0, 95, (subC x2 z2).map u64V, 0⟩), (4, ⟨true, b4, 0, 95, (List.replicate 5 0#64).map u64V, 0⟩), (5, ⟨true, b5, 0, 95, (List.replicate 5 0#64).map u64V, 0⟩)]) := by
    refine hGo ?_
    refine At.bStep [14, 20] (by kernel_rfl) (by simp) ?_
    refine ⟨?_, ?_⟩
    ·
     refine At.bSQ (some 43) (Q_loadN (k := 0) (j := 15) (cs := (x3).map u64V) rfl rfl Try.underlying95 rfl sz95 rfl rfl rfl (seg_at (i := 3) rfl LN LN) LN) ?_
     exact At.into (hGi (hG1_12 b4 b5)) rfl rfl
    ·
     refine At.bSQ (some 49) (Q_loadA (k := 3) rfl rfl Try.underlying95 rfl sz95 LN rfl) ?_
     exact At.into (hGi (hG1_14 b4 b5)) rfl rfl
   have hG1_25 (b4 : Nat) (b5 : Nat) : G 6 #[true, true, true, true, true, true, true, true, true, true, true, true, true, true, false, true, true, true, false, false, true, false, true, true, false, false] (frOf [(0, ptr bl 0), (2, ptr b2 0), (3, ptr b3 0), (4, ptr b4 0), (5, ptr b5 0), (39, .agg ((mulC (subC x3 z3) (addC x2 z2)).map u64V).toArray), (42, ptr bl 15), (46, ptr bl 20), (49, .agg ((subC x2 z2).map u64V).toArray)]) (hOf [(0, ⟨true, bl, 0, 99, [(x1).map u64V, (x2).map u64V, (z2).map u64V, (x3).map u64V, (z3).map u64V].flatten, 0⟩), (2, ⟨true, b2, 0, 95, (addC x2 z2).map u64V, 0⟩), (3, ⟨true, b3, 0, 95, (subC x2 z2).map u64V, 0⟩), (4, ⟨true, b4, 0, 95, (List.replicate 5 0#64).map u64V, 0⟩), (5, ⟨true, b5, 0, 95, (List.replicate 5 0#64).map u64V, 0⟩)]) := by
    refine hGo ?_
    refine At.bStep [14, 18] (by kernel_rfl) (by simp) ?_
    refine ⟨?_, ?_⟩
    ·
     refine At.bSQ (some 43) (Q_loadN (k := 0) (j := 15) (cs := (x3).map u64V) rfl rfl Try.underlying95 rfl sz95 rfl rfl rfl (seg_at (i := 3) rfl LN LN) LN) ?_
     exact At.into (hGi (hG1_13 b4 b5)) rfl rfl
    ·
     refine At.bSQ (some 47) (Q_loadN (k := 0) (j := 20) (cs := (z3).map u64V) rfl rfl Try.underlying95 rfl sz95 rfl rfl rfl (seg_at (i := 4) rfl LN LN) LN) ?_
     exact At.into (hGi (hG1_14 b4 b5)) rfl rfl
   have hG1_26  : G 7 #[true, true, true, true, true, true, true, true, true, true, true, true, true, true, true, true, true, true, true, false, false, false, false, false, false, false] (frOf [(0, ptr bl 0), (2, ptr b2 0), (3, ptr b3 0), (39, .agg ((mulC (subC x3 z3) (addC x2 z2)).map u64V).toArray), (43, .agg ((x3).map u64V).toArray), (47, .agg ((z3).map u64V).toArray)]) (hOf [(0, ⟨true, bl, 0, 99, [(x1).map u64V, (x2).map u64V, (z2).map u64V, (x3).map u64V, (z3).map u64V].flatten, 0⟩), (2, ⟨true, b2, 0, 95, (addC x2 z2).map u64V, 0⟩), (3, ⟨true, b3, 0, 95, (subC x2 z2).map u64V, 0⟩)]) := by
    refine hGo ?_
    refine At.bStep [19, 20, 22, 23] (by kernel_rfl) (by simp) ?_
    refine ⟨?_, ?_, ?_, ?_⟩
    ·
     refine At.bS false (by kernel_rfl) (S_callV (some 48) [] [] (vs := [_, _]) rfl en98 rfl V0 (by simp) (c_add (a := x3) (b := z3) LN LN BD BD) (by rintro _ _ ⟨rfl, rfl⟩; rfl) ?_)
     rintro _ _ ⟨rfl, rfl⟩
     exact At.into (hGi (hG1_15 )) rfl rfl
    ·
     refine At.bSQ (some 49) (Q_loadA (k := 3) rfl rfl Try.underlying95 rfl sz95 LN rfl) ?_
     exact At.into (hGi (hG1_16 )) rfl rfl
    ·
     refine At.bS false (by kernel_rfl) (S_alloc (some 4) 4 (zs := (List.replicate 5 0#64).map u64V) rfl ze95 rfl (fun b4 => ?_))
     exact At.into (hGi (hG1_17 b4)) rfl rfl
    ·
     refine At.bS false (by kernel_rfl) (S_alloc (some 5) 5 (zs := (List.replicate 5 0#64).map u64V) rfl ze95 rfl (fun b5 => ?_))
     exact At.into (hGi (hG1_18 b5)) rfl rfl
   have hG1_27  : G 7 #[true, true, true, true, true, true, true, true, true, true, true, true, true, true, true, true, true, true, false, false, true, false, false, false, false, false] (frOf [(0, ptr bl 0), (2, ptr b2 0), (3, ptr b3 0), (39, .agg ((mulC (subC x3 z3) (addC x2 z2)).map u64V).toArray), (43, .agg ((x3).map u64V).toArray), (46, ptr bl 20), (49, .agg ((subC x2 z2).map u64V).toArray)]) (hOf [(0, ⟨true, bl, 0, 99, [(x1).map u64V, (x2).map u64V, (z2).map u64V, (x3).map u64V, (z3).map u64V].flatten, 0⟩), (2, ⟨true, b2, 0, 95, (addC x2 z2).map u64V, 0⟩), (3, ⟨true, b3, 0, 95, (subC x2 z2).map u64V, 0⟩)]) := by
    refine hGo ?_
    refine At.bStep [18, 22, 23] (by kernel_rfl) (by simp) ?_
    refine ⟨?_, ?_, ?_⟩
    ·
     refine At.bSQ (some 47) (Q_loadN (k := 0) (j := 20) (cs := (z3).map u64V) rfl rfl Try.underlying95 rfl sz95 rfl rfl rfl (seg_at (i := 4) rfl LN LN) LN) ?_
     exact At.into (hGi (hG1_16 )) rfl rfl
    ·
     refine At.bS false (by kernel_rfl) (S_alloc (some 4) 4 (zs := (List.replicate 5 0#64).map u64V) rfl ze95 rfl (fun b4 => ?_))
     exact At.into (hGi (hG1_19 b4)) rfl rfl
    ·
     refine At.bS false (by kernel_rfl) (S_alloc (some 5) 5 (zs := (List.replicate 5 0#64).map u64V) rfl ze95 rfl (fun b5 => ?_))
     exact At.into (hGi (hG1_20 b5)) rfl rfl
   have hG1_28 (b4 : Nat) : G 7 #[true, true, true, true, true, true, true, true, true, true, true, true, true, true, true, true, true, true, false, false, false, false, true, false, false, false] (frOf [(0, ptr bl 0), (2, ptr b2 0), (3, ptr b3 0), (4, ptr b4 0), (39, .agg ((mulC (subC x3 z3) (addC x2 z2)).map u64V).toArray), (43, .agg ((x3).map u64V).toArray), (46, ptr bl 20)]) (hOf [(0, ⟨true, bl, 0, 99, [(x1).map u64V, (x2).map u64V, (z2).map u64V, (x3).map u64V, (z3).map u64V].flatten, 0⟩), (2, ⟨true, b2, 0, 95, (addC x2 z2).map u64V, 0⟩), (3, ⟨true, b3, 0, 95, (subC x2 z2).map u64V, 0⟩), (4, ⟨true, b4, 0, 95, (List.replicate 5 0#64).map u64V, 0⟩)]) := by
    refine hGo ?_
    refine At.bStep [18, 20, 23] (by kernel_rfl) (by simp) ?_
    refine ⟨?_, ?_, ?_⟩
    ·
     refine At.bSQ (some 47) (Q_loadN (k := 0) (j := 20) (cs := (z3).map u64V) rfl rfl Try.underlying95 rfl sz95 rfl rfl rfl (seg_at (i := 4) rfl LN LN) LN) ?_
     exact At.into (hGi (hG1_17 b4)) rfl rfl
    ·
     refine At.bSQ (some 49) (Q_loadA (k := 3) rfl rfl Try.underlying95 rfl sz95 LN rfl) ?_
     exact At.into (hGi (hG1_19 b4)) rfl rfl
    ·
     refine At.bS false (by kernel_rfl) (S_alloc (some 5) 5 (zs := (List.replicate 5 0#64).map u64V) rfl ze95 rfl (fun b5 => ?_))
     exact At.into (hGi (hG1_21 b4 b5)) rfl rfl
   have hG1_29 (b5 : Nat) : G 7 #[true, true, true, true, true, true, true, true, true, true, true, true, true, true, true, true, true, true, false, false, false, false, false, true, false, false] (frOf [(0, ptr bl 0), (2, ptr b2 0), (3, ptr b3 0), (5, ptr b5 0), (39, .agg ((mulC (subC x3 z3) (addC x2 z2)).map u64V).toArray), (43, .agg ((x3).map u64V).toArray), (46, ptr bl 20)]) (hOf [(0, ⟨true, bl, 0, 99, [(x1).map u64V, (x2).map u64V, (z2).map u64V, (x3).map u64V, (z3).map u64V].flatten, 0⟩), (2, ⟨true, b2, 0, 95, (addC x2 z2).map u64V, 0⟩), (3, ⟨true, b3, 0, 95, (subC x2 z2).map u64V, 0⟩), (5, ⟨true, b5, 0, 95, (List.replicate 5 0#64).map u64V, 0⟩)]) := by
    refine hGo ?_
    refine At.bStep [18, 20, 22] (by kernel_rfl) (by simp) ?_
    refine ⟨?_, ?_, ?_⟩
    ·
     refine At.bSQ (some 47) (Q_loadN (k := 0) (j := 20) (cs := (z3).map u64V) rfl rfl Try.underlying95 rfl sz95 rfl rfl rfl (seg_at (i := 4) rfl LN LN) LN) ?_
     exact At.into (hGi (hG1_18 b5)) rfl rfl
    ·
     refine At.bSQ (some 49) (Q_loadA (k := 3) rfl rfl Try.underlying95 rfl sz95 LN rfl) ?_
     exact At.into (hGi (hG1_20 b5)) rfl rfl
    ·
     refine At.bS false (by kernel_rfl) (S_alloc (some 4) 4 (zs := (List.replicate 5 0#64).map u64V) rfl ze95 rfl (fun b4 => ?_))
     exact At.into (hGi (hG1_21 b4 b5)) rfl rfl
   have hG1_30  : G 7 #[true, true, true, true, true, true, true, true, true, true, true, true, true, true, false, true, true, true, true, false, true, false, false, false, false, false] (frOf [(0, ptr bl 0), (2, ptr b2 0), (3, ptr b3 0), (39, .agg ((mulC (subC x3 z3) (addC x2 z2)).map u64V).toArray), (42, ptr bl 15), (47, .agg ((z3).map u64V).toArray), (49, .agg ((subC x2 z2).map u64V).toArray)]) (hOf [(0, ⟨true, bl, 0, 99, [(x1).map u64V, (x2).map u64V, (z2).map u64V, (x3).map u64V, (z3).map u64V].flatten, 0⟩), (2, ⟨true, b2, 0, 95, (addC x2 z2).map u64V, 0⟩), (3, ⟨true, b3, 0, 95, (subC x2 z2).map u64V, 0⟩)]) := by
    refine hGo ?_
    refine At.bStep [14, 22, 23] (by kernel_rfl) (by simp) ?_
    refine ⟨?_, ?_, ?_⟩
    ·
     refine At.bSQ (some 43) (Q_loadN (k := 0) (j := 15) (cs := (x3).map u64V) rfl rfl Try.underlying95 rfl sz95 rfl rfl rfl (seg_at (i := 3) rfl LN LN) LN) ?_
     exact At.into (hGi (hG1_16 )) rfl rfl
    ·
     refine At.bS false (by kernel_rfl) (S_alloc (some 4) 4 (zs := (List.replicate 5 0#64).map u64V) rfl ze95 rfl (fun b4 => ?_))
     exact At.into (hGi (hG1_22 b4)) rfl rfl
    ·
     refine At.bS false (by kernel_rfl) (S_alloc (some 5) 5 (zs := (List.replicate 5 0#64).map u64V) rfl ze95 rfl (fun b5 => ?_))
     exact At.into (hGi (hG1_23 b5)) rfl rfl
   have hG1_31 (b4 : Nat) : G 7 #[true, true, true, true, true, true, true, true, true, true, true, true, true, true, false, true, true, true, true, false, false, false, true, false, false, false] (frOf [(0, ptr bl 0), (2, ptr b2 0), (3, ptr b3 0), (4, ptr b4 0), (39, .agg ((mulC (subC x3 z3) (addC x2 z2)).map u64V).toArray), (42, ptr bl 15), (47, .agg ((z3).map u64V).toArray)]) (hOf [(0, ⟨true, bl, 0, 99, [(x1).map u64V, (x2).map u64V, (z2).map u64V, (x3).map u64V, (z3).map u64V].flatten, 0⟩), (2, ⟨true, b2, 0, 95, (addC x2 z2).map u64V, 0⟩), (3, ⟨true, b3, 0, 95, (subC x2 z2).map u64V, 0⟩), (4, ⟨true, b4, 0, 95, (List.replicate 5 0#64).map u64V, 0⟩)]) := by
    refine hGo ?_
    refine At.bStep [14, 20, 23] (by kernel_rfl) (by simp) ?_
    refine ⟨?_, ?_, ?_⟩
    ·
     refine At.bSQ (some 43) (Q_loadN (k := 0) (j := 15) (cs := (x3).map u64V) rfl rfl Try.underlying95 rfl sz95 rfl rfl rfl (seg_at (i := 3) rfl LN LN) LN) ?_
     exact At.into (hGi (hG1_17 b4)) rfl rfl
    ·
     refine At.bSQ (some 49) (Q_loadA (k := 3) rfl rfl Try.underlying95 rfl sz95 LN rfl) ?_
     exact At.into (hGi (hG1_22 b4)) rfl rfl
    ·
     refine At.bS false (by kernel_rfl) (S_alloc (some 5) 5 (zs := (List.replicate 5 0#64).map u64V) rfl ze95 rfl (fun b5 => ?_))
     exact At.into (hGi (hG1_24 b4 b5)) rfl rfl
   have hG1_32 (b5 : Nat) : G 7 #[true, true, true, true, true, true, true, true, true, true, true, true, true, true, false, true, true, true, true, false, false, false, false, true, false, false] (frOf [(0, ptr bl 0), (2, ptr b2 0), (3, ptr b3 0), (5, ptr b5 0), (39, .agg ((mulC (subC x3 z3) (addC x2 z2)).map u64V).toArray), (42, ptr bl 15), (47, .agg ((z3).map u64V).toArray)]) (hOf [(0, ⟨true, bl, 0, 99, [(x1).map u64V, (x2).map u64V, (z2).map u64V, (x3).map u64V, (z3).map u64V].flatten, 0⟩), (2, ⟨true, b2, 0, 95, (addC x2 z2).map u64V, 0⟩), (3, ⟨true, b3, 0, 95, (subC x2 z2).map u64V, 0⟩), (5, ⟨true, b5, 0, 95, (List.replicate 5 0#64).map u64V, 0⟩)]) := by
    refine hGo ?_
    refine At.bStep [14, 20, 22] (by kernel_rfl) (by simp) ?_
    refine ⟨?_, ?_, ?_⟩
    ·
     refine At.bSQ (some 43) (Q_loadN (k := 0) (j := 15) (cs := (x3).map u64V) rfl rfl Try.underlying95 rfl sz95 rfl rfl rfl (seg_at (i := 3) rfl LN LN) LN) ?_
     exact At.into (hGi (hG1_18 b5)) rfl rfl
    ·
     refine At.bSQ (some 49) (Q_loadA (k := 3) rfl rfl Try.underlying95 rfl sz95 LN rfl) ?_
     exact At.into (hGi (hG1_23 b5)) rfl rfl
    ·
     refine At.bS false (by kernel_rfl) (S_alloc (some 4) 4 (zs := (List.replicate 5 0#64).map u64V) rfl ze95 rfl (fun b4 => ?_))
     exact At.into (hGi (hG1_24 b4 b5)) rfl rfl
   have hG1_33 (b4 : Nat) : G 7 #[true, true, true, true, true, true, true, true, true, true, true, true, true, true, false, true, true, true, false, false, true, false, true, false, false, false] (frOf [(0, ptr bl 0), (2, ptr b2 0), (3, ptr b3 0), (4, ptr b4 0), (39, .agg ((mulC (subC x3 z3) (addC x2 z2)).map u64V).toArray), (42, ptr bl 15), (46, ptr bl 20), (49, .agg ((subC x2 z2).map u64V).toArray)]) (hOf [(0, ⟨true, bl, 0, 99, [(x1).map u64V, (x2).map u64V, (z2).map u64V, (x3).map u64V, (z3).map u64V].flatten, 0⟩), (2, ⟨true, b2, 0, 95, (addC x2 z2).map u64V, 0⟩), (3, ⟨true, b3, 0, 95, (subC x2 z2).map u64V, 0⟩), (4, ⟨true, b4, 0, 95, (List.replicate 5 0#64).map u64V, 0⟩)]) := by
    refine hGo ?_
    refine At.bStep [14, 18, 23] (by kernel_rfl) (by simp) ?_
    refine ⟨?_, ?_, ?_⟩
    ·
     refine At.bSQ (some 43) (Q_loadN (k := 0) (j := 15) (cs := (x3).map u64V) rfl rfl Try.underlying95 rfl sz95 rfl rfl rfl (seg_at (i := 3) rfl LN LN) LN) ?_
     exact At.into (hGi (hG1_19 b4)) rfl rfl
    ·
     refine At.bSQ (some 47) (Q_loadN (k := 0) (j := 20) (cs := (z3).map u64V) rfl rfl Try.underlying95 rfl sz95 rfl rfl rfl (seg_at (i := 4) rfl LN LN) LN) ?_
     exact At.into (hGi (hG1_22 b4)) rfl rfl
    ·
     refine At.bS false (by kernel_rfl) (S_alloc (some 5) 5 (zs := (List.replicate 5 0#64).map u64V) rfl ze95 rfl (fun b5 => ?_))
     exact At.into (hGi (hG1_25 b4 b5)) rfl rfl
   have hG1_34 (b5 : Nat) : G 7 #[true, true, true, true, true, true, true, true, true, true, true, true, true, true, false, true, true, true, false, false, true, false, false, true, false, false] (frOf [(0, ptr bl 0), (2, ptr b2 0), (3, ptr b3 0), (5, ptr b5 0), (39, .agg ((mulC (subC x3 z3) (addC x2 z2)).map u64V).toArray), (42, ptr bl 15), (46, ptr bl 20), (49, .agg ((subC x2 z2).map u64V).toArray)]) (hOf [(0, ⟨true, bl, 0, 99, [(x1).map u64V, (x2).map u64V, (z2).map u64V, (x3).map u64V, (z3).map u64V].flatten, 0⟩), (2, ⟨true, b2, 0, 95, (addC x2 z2).map u64V, 0⟩), (3, ⟨true, b3, 0, 95, (subC x2 z2).map u64V, 0⟩), (5, ⟨true, b5, 0, 95, (List.replicate 5 0#64).map u64V, 0⟩)]) := by
    refine hGo ?_
    refine At.bStep [14, 18, 22] (by kernel_rfl) (by simp) ?_
    refine ⟨?_, ?_, ?_⟩
    ·
     refine At.bSQ (some 43) (Q_loadN (k := 0) (j := 15) (cs := (x3).map u64V) rfl rfl Try.underlying95 rfl sz95 rfl rfl rfl (seg_at (i := 3) rfl LN LN) LN) ?_
     exact At.into (hGi (hG1_20 b5)) rfl rfl
    ·
     refine At.bSQ (some 47) (Q_loadN (k := 0) (j := 20) (cs := (z3).map u64V) rfl rfl Try.underlying95 rfl sz95 rfl rfl rfl (seg_at (i := 4) rfl LN LN) LN) ?_
     exact At.into (hGi (hG1_23 b5)) rfl rfl
    ·
     refine At.bS false (by kernel_rfl) (S_alloc (some 4) 4 (zs := (List.replicate 5 0#64).map u64V) rfl ze95 rfl (fun b4 => ?_))
     exact At.into (hGi (hG1_25 b4 b5)) rfl rfl
   have hG1_35 (b4 : Nat) (b5 : Nat) : G 7 #[true, true, true, true, true, true, true, true, true, true, true, true, true, true, false, true, true, true, false, false, false, false, true, true, false, false] (frOf [(0, ptr bl 0), (2, ptr b2 0), (3, ptr b3 0), (4, ptr b4 0), (5, ptr b5 0), (39, .agg ((mulC (subC x3 z3) (addC x2 z2)).map u64V).toArray), (42, ptr bl 15), (46, ptr bl 20)]) (hOf [(0, ⟨true, bl, 0, 99, [(x1).map u64V, (x2).map u64V, (z2).map u64V, (x3).map u64V, (z3).map u64V].flatten, 0⟩), (2, ⟨true, b2, 0, 95, (addC x2 z2).map u64V, 0⟩), (3, ⟨true, b3, 0, 95, (subC x2 z2).map u64V, 0⟩), (4, ⟨true, b4, 0, 95, (List.replicate 5 0#64).map u64V, 0⟩), (5, ⟨true, b5, 0, 95, (List.replicate 5 0#64).map u64V, 0⟩)]) := by
    refine hGo ?_
    refine At.bStep [14, 18, 20] (by kernel_rfl) (by simp) ?_
    refine ⟨?_, ?_, ?_⟩
    ·
     refine At.bSQ (some 43) (Q_loadN (k := 0) (j := 15) (cs := (x3).map u64V) rfl rfl Try.underlying95 rfl sz95 rfl rfl rfl (seg_at (i := 3) rfl LN LN) LN) ?_
     exact At.into (hGi (hG1_21 b4 b5)) rfl rfl
    ·
     refine At.bSQ (some 47) (Q_loadN (k := 0) (j := 20) (cs := (z3).map u64V) rfl rfl Try.underlying95 rfl sz95 rfl rfl rfl (seg_at (i := 4) rfl LN LN) LN) ?_
     exact At.into (hGi (hG1_24 b4 b5)) rfl rfl
    ·
     refine At.bSQ (some 49) (Q_loadA (k := 3) rfl rfl Try.underlying95 rfl sz95 LN rfl) ?_
     exact At.into (hGi (hG1_25 b4 b5)) rfl rfl
   have hG1_36  : G 8 #[true, true, true, true, true, true, true, true, true, true, true, true, true, true, true, true, true, true, false, false, false, false, false, false, false, false] (frOf [(0, ptr bl 0), (2, ptr b2 0), (3, ptr b3 0), (39, .agg ((mulC (subC x3 z3) (addC x2 z2)).map u64V).toArray), (43, .agg ((x3).map u64V).toArray), (46, ptr bl 20)]) (hOf [(0, ⟨true, bl, 0, 99, [(x1).map u64V, (x2).map u64V, (z2).map u64V, (x3).map u64V, (z3).map u64V].flatten, 0⟩), (2, ⟨true, b2, 0, 95, (addC x2 z2).map u64V, 0⟩), (3, ⟨true, b3, 0, 95, (subC x2 z2).map u64V, 0⟩)]) := by
    refine hGo ?_
    refine At.bStep [18, 20, 22, 23] (by kernel_rfl) (by simp) ?_
    refine ⟨?_, ?_, ?_, ?_⟩
    ·
     refine At.bSQ (some 47) (Q_loadN (k := 0) (j := 20) (cs := (z3).map u64V) rfl rfl Try.underlying95 rfl sz95 rfl rfl rfl (seg_at (i := 4) rfl LN LN) LN) ?_
     exact At.into (hGi (hG1_26 )) rfl rfl
    ·
     refine At.bSQ (some 49) (Q_loadA (k := 3) rfl rfl Try.underlying95 rfl sz95 LN rfl) ?_
     exact At.into (hGi (hG1_27 )) rfl rfl
    ·
     refine At.bS false (by kernel_rfl) (S_alloc (some 4) 4 (zs := (List.replicate 5 0#64).map u64V) rfl ze95 rfl (fun b4 => ?_))
     exact At.into (hGi (hG1_28 b4)) rfl rfl
    ·
     refine At.bS false (by kernel_rfl) (S_alloc (some 5) 5 (zs := (List.replicate 5 0#64).map u64V) rfl ze95 rfl (fun b5 => ?_))
     exact At.into (hGi (hG1_29 b5)) rfl rfl
   have hG1_37  : G 8 #[true, true, true, true, true, true, true, true, true, true, true, true, true, true, false, true, true, true, true, false, false, false, false, false, false, false] (frOf [(0, ptr bl 0), (2, ptr b2 0), (3, ptr b3 0), (39, .agg ((mulC (subC x3 z3) (addC x2 z2)).map u64V).toArray), (42, ptr bl 15), (47, .agg ((z3).map u64V).toArray)]) (hOf [(0, ⟨true, bl, 0, 99, [(x1).map u64V, (x2).map u64V, (z2).map u64V, (x3).map u64V, (z3).map u64V].flatten, 0⟩), (2, ⟨true, b2, 0, 95, (addC x2 z2).map u64V, 0⟩), (3, ⟨true, b3, 0, 95, (subC x2 z2).map u64V, 0⟩)]) := by
    refine hGo ?_
    refine At.bStep [14, 20, 22, 23] (by kernel_rfl) (by simp) ?_
    refine ⟨?_, ?_, ?_, ?_⟩
    ·
     refine At.bSQ (some 43) (Q_loadN (k := 0) (j := 15) (cs := (x3).map u64V) rfl rfl Try.underlying95 rfl sz95 rfl rfl rfl (seg_at (i := 3) rfl LN LN) LN) ?_
     exact At.into (hGi (hG1_26 )) rfl rfl
    ·
     refine At.bSQ (some 49) (Q_loadA (k := 3) rfl rfl Try.underlying95 rfl sz95 LN rfl) ?_
     exact At.into (hGi (hG1_30 )) rfl rfl
    ·
     refine At.bS false (by kernel_rfl) (S_alloc (some 4) 4 (zs := (List.replicate 5 0#64).map u64V) rfl ze95 rfl (fun b4 => ?_))
     exact At.into (hGi (hG1_31 b4)) rfl rfl
    ·
     refine At.bS false (by kernel_rfl) (S_alloc (some 5) 5 (zs := (List.replicate 5 0#64).map u64V) rfl ze95 rfl (fun b5 => ?_))
     exact At.into (hGi (hG1_32 b5)) rfl rfl
   have hG1_38  : G 8 #[true, true, true, true, true, true, true, true, true, true, true, true, true, true, false, true, true, true, false, false, true, false, false, false, false, false] (frOf [(0, ptr bl 0), (2, ptr b2 0), (3, ptr b3 0), (39, .agg ((mulC (subC x3 z3) (addC x2 z2)).map u64V).toArray), (42, ptr bl 15), (46, ptr bl 20), (49, .agg ((subC x2 z2).map u64V).toArray)]) (hOf [(0, ⟨true, bl, 0, 99, [(x1).map u64V, (x2).map u64V, (z2).map u64V, (x3).map u64V, (z3).map u64V].flatten, 0⟩), (2, ⟨true, b2, 0, 95, (addC x2 z2).map u64V, 0⟩), (3, ⟨true, b3, 0, 95, (subC x2 z2).map u64V, 0⟩)]) := by
    refine hGo ?_
    refine At.bStep [14, 18, 22, 23] (by kernel_rfl) (by simp) ?_
    refine ⟨?_, ?_, ?_, ?_⟩
    ·
     refine At.bSQ (some 43) (Q_loadN (k := 0) (j := 15) (cs := (x3).map u64V) rfl rfl Try.underlying95 rfl sz95 rfl rfl rfl (seg_at (i := 3) rfl LN LN) LN) ?_
     exact At.into (hGi (hG1_27 )) rfl rfl
    ·
     refine At.bSQ (some 47) (Q_loadN (k := 0) (j := 20) (cs := (z3).map u64V) rfl rfl Try.underlying95 rfl sz95 rfl rfl rfl (seg_at (i := 4) rfl LN LN) LN) ?_
     exact At.into (hGi (hG1_30 )) rfl rfl
    ·
     refine At.bS false (by kernel_rfl) (S_alloc (some 4) 4 (zs := (List.replicate 5 0#64).map u64V) rfl ze95 rfl (fun b4 => ?_))
     exact At.into (hGi (hG1_33 b4)) rfl rfl
    ·
     refine At.bS false (by kernel_rfl) (S_alloc (some 5) 5 (zs := (List.replicate 5 0#64).map u64V) rfl ze95 rfl (fun b5 => ?_))
     exact At.into (hGi (hG1_34 b5)) rfl rfl
   have hG1_39 (b4 : Nat) : G 8 #[true, true, true, true, true, true, true, true, true, true, true, true, true, true, false, true, true, true, false, false, false, false, true, false, false, false] (frOf [(0, ptr bl 0), (2, ptr b2 0), (3, ptr b3 0), (4, ptr b4 0), (39, .agg ((mulC (subC x3 z3) (addC x2 z2)).map u64V).toArray), (42, ptr bl 15), (46, ptr bl 20)]) (hOf [(0, ⟨true, bl, 0, 99, [(x1).map u64V, (x2).map u64V, (z2).map u64V, (x3).map u64V, (z3).map u64V].flatten, 0⟩), (2, ⟨true, b2, 0, 95, (addC x2 z2).map u64V, 0⟩), (3, ⟨true, b3, 0, 95, (subC x2 z2).map u64V, 0⟩), (4, ⟨true, b4, 0, 95, (List.replicate 5 0#64).map u64V, 0⟩)]) := by
    refine hGo ?_
    refine At.bStep [14, 18, 20, 23] (by kernel_rfl) (by simp) ?_
    refine ⟨?_, ?_, ?_, ?_⟩
    ·
     refine At.bSQ (some 43) (Q_loadN (k := 0) (j := 15) (cs := (x3).map u64V) rfl rfl Try.underlying95 rfl sz95 rfl rfl rfl (seg_at (i := 3) rfl LN LN) LN) ?_
     exact At.into (hGi (hG1_28 b4)) rfl rfl
    ·
     refine At.bSQ (some 47) (Q_loadN (k := 0) (j := 20) (cs := (z3).map u64V) rfl rfl Try.underlying95 rfl sz95 rfl rfl rfl (seg_at (i := 4) rfl LN LN) LN) ?_
     exact At.into (hGi (hG1_31 b4)) rfl rfl
    ·
     refine At.bSQ (some 49) (Q_loadA (k := 3) rfl rfl Try.underlying95 rfl sz95 LN rfl) ?_
     exact At.into (hGi (hG1_33 b4)) rfl rfl
    ·
     refine At.bS false (by kernel_rfl) (S_alloc (some 5) 5 (zs := (List.replicate 5 0#64).map u64V) rfl ze95 rfl (fun b5 => ?_))
     exact At.into (hGi (hG1_35 b4 b5)) rfl rfl
   have hG1_40 (b5 : Nat) : G 8 #[true, true, true, true, true, true, true, true, true, true, true, true, true, true, false, true, true, true, false, false, false, false, false, true, false, false] (frOf [(0, ptr bl 0), (2, ptr b2 0), (3, ptr b3 0), (5, ptr b5 0), (39, .agg ((mulC (subC x3 z3) (addC x2 z2)).map u64V).toArray), (42, ptr bl 15), (46, ptr bl 20)]) (hOf [(0, ⟨true, bl, 0, 99, [(x1).map u64V, (x2).map u64V, (z2).map u64V, (x3).map u64V, (z3).map u64V].flatten, 0⟩), (2, ⟨true, b2, 0, 95, (addC x2 z2).map u64V, 0⟩), (3, ⟨true, b3, 0, 95, (subC x2 z2).map u64V, 0⟩), (5, ⟨true, b5, 0, 95, (List.replicate 5 0#64).map u64V, 0⟩)]) := by
    refine hGo ?_
    refine At.bStep [14, 18, 20, 22] (by kernel_rfl) (by simp) ?_
    refine ⟨?_, ?_, ?_, ?_⟩
    ·
     refine At.bSQ (some 43) (Q_loadN (k := 0) (j := 15) (cs := (x3).map u64V) rfl rfl Try.underlying95 rfl sz95 rfl rfl rfl (seg_at (i := 3) rfl LN LN) LN) ?_
     exact At.into (hGi (hG1_29 b5)) rfl rfl
    ·
     refine At.bSQ (some 47) (Q_loadN (k := 0) (j := 20) (cs := (z3).map u64V) rfl rfl Try.underlying95 rfl sz95 rfl rfl rfl (seg_at (i := 4) rfl LN LN) LN) ?_
     exact At.into (hGi (hG1_32 b5)) rfl rfl
    ·
     refine At.bSQ (some 49) (Q_loadA (k := 3) rfl rfl Try.underlying95 rfl sz95 LN rfl) ?_
     exact At.into (hGi (hG1_34 b5)) rfl rfl
    ·
     refine At.bS false (by kernel_rfl) (S_alloc (some 4) 4 (zs := (List.replicate 5 0#64).map u64V) rfl ze95 rfl (fun b4 => ?_))
     exact At.into (hGi (hG1_35 b4 b5)) rfl rfl
   have hG1_41  : G 9 #[true, true, true, true, true, true, true, true, true, true, true, true, true, true, false, true, true, true, false, false, false, false, false, false, false, false] (frOf [(0, ptr bl 0), (2, ptr b2 0), (3, ptr b3 0), (39, .agg ((mulC (subC x3 z3) (addC x2 z2)).map u64V).toArray), (42, ptr bl 15), (46, ptr bl 20)]) (hOf [(0, ⟨true, bl, 0, 99, [(x1).map u64V, (x2).map u64V, (z2).map u64V, (x3).map u64V, (z3).map u64V].flatten, 0⟩), (2, ⟨true, b2, 0, 95, (addC x2 z2).map u64V, 0⟩), (3, ⟨true, b3, 0, 95, (subC x2 z2).map u64V, 0⟩)]) := by
    refine hGo ?_
    refine At.bStep [14, 18, 20, 22, 23] (by kernel_rfl) (by simp) ?_
    refine ⟨?_, ?_, ?_, ?_, ?_⟩
    ·
     refine At.bSQ (some 43) (Q_loadN (k := 0) (j := 15) (cs := (x3).map u64V) rfl rfl Try.underlying95 rfl sz95 rfl rfl rfl (seg_at (i := 3) rfl LN LN) LN) ?_
     exact At.into (hGi (hG1_36 )) rfl rfl
    ·
     refine At.bSQ (some 47) (Q_loadN (k := 0) (j := 20) (cs := (z3).map u64V) rfl rfl Try.underlying95 rfl sz95 rfl rfl rfl (seg_at (i := 4) rfl LN LN) LN) ?_
     exact At.into (hGi (hG1_37 )) rfl rfl
    ·
     refine At.bSQ (some 49) (Q_loadA (k := 3) rfl rfl Try.underlying95 rfl sz95 LN rfl) ?_
     exact At.into (hGi (hG1_38 )) rfl rfl
    ·
     refine At.bS false (by kernel_rfl) (S_alloc (some 4) 4 (zs := (List.replicate 5 0#64).map u64V) rfl ze95 rfl (fun b4 => ?_))
     exact At.into (hGi (hG1_39 b4)) rfl rfl
    ·
     refine At.bS false (by kernel_rfl) (S_alloc (some 5) 5 (zs := (List.replicate 5 0#64).map u64V) rfl ze95 rfl (fun b5 => ?_))
     exact At.into (hGi (hG1_40 b5)) rfl rfl
   refine hGo ?_
   refine At.bP  0 (some 29) (P_move rfl rfl) (by kernel_rfl) (by kernel_rfl) ?_
   refine At.bP  1 (some 30) (P_nilCheck rfl rfl) (by kernel_rfl) (by kernel_rfl) ?_
   refine At.bP  2 (some 31) (P_fieldAddr0 (off := 15) rfl Try.underlying99 rfl sz95 rfl rfl) (by kernel_rfl) (by kernel_rfl) ?_
   refine At.bQ  3 (some 32) (Q_loadN (k := 0) (j := 15) (cs := (x3).map u64V) rfl rfl Try.underlying95 rfl sz95 rfl rfl rfl (seg_at (i := 3) rfl LN LN) LN) (by kernel_rfl) (by kernel_rfl) ?_
   refine At.bP  4 (some 33) (P_move rfl rfl) (by kernel_rfl) (by kernel_rfl) ?_
   refine At.bP  5 (some 34) (P_nilCheck rfl rfl) (by kernel_rfl) (by kernel_rfl) ?_
   refine At.bP  6 (some 35) (P_fieldAddr0 (off := 20) rfl Try.underlying99 rfl sz95 rfl rfl) (by kernel_rfl) (by kernel_rfl) ?_
   refine At.bQ  7 (some 36) (Q_loadN (k := 0) (j := 20) (cs := (z3).map u64V) rfl rfl Try.underlying95 rfl sz95 rfl rfl rfl (seg_at (i := 4) rfl LN LN) LN) (by kernel_rfl) (by kernel_rfl) ?_
   refine At.bC  8 (some 37) [] (vs := [_, _]) (by kernel_rfl) (by kernel_rfl) rfl en99 rfl V0 (c_sub (a := x3) (b := z3) LN LN BD BD) ?_
   refine At.bQ  9 (some 38) (Q_loadA (k := 2) rfl rfl Try.underlying95 rfl sz95 LN rfl) (by kernel_rfl) (by kernel_rfl) ?_
   refine At.bC  10 (some 39) [] (vs := [_, _]) (by kernel_rfl) (by kernel_rfl) rfl en54 rfl V0 (c_mulC (a := (subC x3 z3)) (b := (addC x2 z2)) LN LN BD BD) ?_
   refine At.bP  11 (some 40) (P_move rfl rfl) (by kernel_rfl) (by kernel_rfl) ?_
   refine At.bP  12 (some 41) (P_nilCheck rfl rfl) (by kernel_rfl) (by kernel_rfl) ?_
   refine At.bP  13 (some 42) (P_fieldAddr0 (off := 15) rfl Try.underlying99 rfl sz95 rfl rfl) (by kernel_rfl) (by kernel_rfl) ?_
   refine At.bP  15 (some 44) (P_move rfl rfl) (by kernel_rfl) (by kernel_rfl) ?_
   refine At.bP  16 (some 45) (P_nilCheck rfl rfl) (by kernel_rfl) (by kernel_rfl) ?_
   refine At.bP  17 (some 46) (P_fieldAddr0 (off := 20) rfl Try.underlying99 rfl sz95 rfl rfl) (by kernel_rfl) (by kernel_rfl) ?_
   exact At.into (hGi (hG1_41 )) rfl rfl
  ·
   rintro fr H ⟨b4, b5, rfl, rfl, -⟩
   refine At.next ?_
   refine At.seq ?_
   have := mulC_len (addC x2 z2) (addC x2 z2)
   have := mulC_len (subC x2 z2) (subC x2 z2)
   refine At.bBruteG [8, 9] (fun fr H => ∃ (b6 : Nat) (b7 : Nat), fr = frOf [(0, ptr bl 0), (4, ptr b4 0), (5, ptr b5 0), (6, ptr b6 0), (7, ptr b7 0)] ∧ H = hOf [(0, ⟨true, bl, 0, 99, [(x1).map u64V, (x2).map u64V, (z2).map u64V, (x3).map u64V, (z3).map u64V].flatten, 0⟩), (4, ⟨true, b4, 0, 95, (mulC (subC x3 z3) (addC x2 z2)).map u64V, 0⟩), (5, ⟨true, b5, 0, 95, (mulC (addC x3 z3) (subC x2 z2)).map u64V, 0⟩), (6, ⟨true, b6, 0, 95, (mulC (addC x2 z2) (addC x2 z2)).map u64V, 0⟩), (7, ⟨true, b7, 0, 95, (mulC (subC x2 z2) (subC x2 z2)).map u64V, 0⟩)] ∧ True) (by kernel_rfl) ?_ ?_
   ·
    intro Kb hKb G hGi hGo
    have hG2_0 (b6 : Nat) (b7 : Nat) : G 0 #[true, true, true, true, true, true, true, true, true, true] (frOf [(0, ptr bl 0), (4, ptr b4 0), (5, ptr b5 0), (6, ptr b6 0), (7, ptr b7 0)]) (hOf [(0, ⟨true, bl, 0, 99, [(x1).map u64V, (x2).map u64V, (z2).map u64V, (x3).map u64V, (z3).map u64V].flatten, 0⟩), (4, ⟨true, b4, 0, 95, (mulC (subC x3 z3) (addC x2 z2)).map u64V, 0⟩), (5, ⟨true, b5, 0, 95, (mulC (addC x3 z3) (subC x2 z2)).map u64V, 0⟩), (6, ⟨true, b6, 0, 95, (mulC (addC x2 z2) (addC x2 z2)).map u64V, 0⟩), (7, ⟨true, b7, 0, 95, (mulC (subC x2 z2) (subC x2 z2)).map u64V, 0⟩)]) := by
     refine hGo ?_
     refine At.bEnd (by kernel_rfl) ?_
     refine At.next ?_
     exact hKb _ _ ⟨b6, b7, rfl, rfl, trivial⟩
    have hG2_1 (b6 : Nat) (b7 : Nat) : G 1 #[true, true, true, true, true, true, true, true, true, false] (frOf [(0, ptr bl 0), (4, ptr b4 0), (5, ptr b5 0), (6, ptr b6 0), (7, ptr b7 0), (56, .agg ((mulC (subC x2 z2) (subC x2 z2)).map u64V).toArray)]) (hOf [(0, ⟨true, bl, 0, 99, [(x1).map u64V, (x2).map u64V, (z2).map u64V, (x3).map u64V, (z3).map u64V].flatten, 0⟩), (4, ⟨true, b4, 0, 95, (mulC (subC x3 z3) (addC x2 z2)).map u64V, 0⟩), (5, ⟨true, b5, 0, 95, (mulC (addC x3 z3) (subC x2 z2)).map u64V, 0⟩), (6, ⟨true, b6, 0, 95, (mulC (addC x2 z2) (addC x2 z2)).map u64V, 0⟩), (7, ⟨true, b7, 0, 95, (List.replicate 5 0#64).map u64V, 0⟩)]) := by
     refine hGo ?_
     refine At.bStep [9] (by kernel_rfl) (by simp) ?_
     refine At.bS true (by kernel_rfl) (S_storeA none (k := 7) (vs := (mulC (subC x2 z2) (subC x2 z2)).map u64V) rfl rfl rfl (by rw [sz95]; exact congrArg some LN) rfl (one_map (fun _ => rfl)) NG rfl LN ?_)
     exact At.into (hGi (hG2_0 b6 b7)) rfl rfl
    have hG2_2 (b6 : Nat) (b7 : Nat) : G 2 #[true, true, true, true, true, true, true, true, false, false] (frOf [(0, ptr bl 0), (4, ptr b4 0), (5, ptr b5 0), (6, ptr b6 0), (7, ptr b7 0), (53, .agg ((mulC (addC x2 z2) (addC x2 z2)).map u64V).toArray), (56, .agg ((mulC (subC x2 z2) (subC x2 z2)).map u64V).toArray)]) (hOf [(0, ⟨true, bl, 0, 99, [(x1).map u64V, (x2).map u64V, (z2).map u64V, (x3).map u64V, (z3).map u64V].flatten, 0⟩), (4, ⟨true, b4, 0, 95, (mulC (subC x3 z3) (addC x2 z2)).map u64V, 0⟩), (5, ⟨true, b5, 0, 95, (mulC (addC x3 z3) (subC x2 z2)).map u64V, 0⟩), (6, ⟨true, b6, 0, 95, (List.replicate 5 0#64).map u64V, 0⟩), (7, ⟨true, b7, 0, 95, (List.replicate 5 0#64).map u64V, 0⟩)]) := by
     refine hGo ?_
     refine At.bStep [8] (by kernel_rfl) (by simp) ?_
     refine At.bS true (by kernel_rfl) (S_storeA none (k := 6) (vs := (mulC (addC x2 z2) (addC x2 z2)).map u64V) rfl rfl rfl (by rw [sz95]; exact congrArg some LN) rfl (one_map (fun _ => rfl)) NG rfl LN ?_)
     exact At.into (hGi (hG2_1 b6 b7)) rfl rfl
    have hG2_3 (b6 : Nat) : G 3 #[true, true, true, true, true, true, true, false, false, false] (frOf [(0, ptr bl 0), (4, ptr b4 0), (5, ptr b5 0), (6, ptr b6 0), (53, .agg ((mulC (addC x2 z2) (addC x2 z2)).map u64V).toArray), (56, .agg ((mulC (subC x2 z2) (subC x2 z2)).map u64V).toArray)]) (hOf [(0, ⟨true, bl, 0, 99, [(x1).map u64V, (x2).map u64V, (z2).map u64V, (x3).map u64V, (z3).map u64V].flatten, 0⟩), (4, ⟨true, b4, 0, 95, (mulC (subC x3 z3) (addC x2 z2)).map u64V, 0⟩), (5, ⟨true, b5, 0, 95, (mulC (addC x3 z3) (subC x2 z2)).map u64V, 0⟩), (6, ⟨true, b6, 0, 95, (List.replicate 5 0#64).map u64V, 0⟩)]) := by
     refine hGo ?_
     refine At.bStep [7] (by kernel_rfl) (by simp) ?_
     refine At.bS false (by kernel_rfl) (S_alloc (some 7) 7 (zs := (List.replicate 5 0#64).map u64V) rfl ze95 rfl (fun b7 => ?_))
     exact At.into (hGi (hG2_2 b6 b7)) rfl rfl
    have hG2_4 (b7 : Nat) : G 3 #[true, true, true, true, true, true, false, true, false, false] (frOf [(0, ptr bl 0), (4, ptr b4 0), (5, ptr b5 0), (7, ptr b7 0), (53, .agg ((mulC (addC x2 z2) (addC x2 z2)).map u64V).toArray), (56, .agg ((mulC (subC x2 z2) (subC x2 z2)).map u64V).toArray)]) (hOf [(0, ⟨true, bl, 0, 99, [(x1).map u64V, (x2).map u64V, (z2).map u64V, (x3).map u64V, (z3).map u64V].flatten, 0⟩), (4, ⟨true, b4, 0, 95, (mulC (subC x3 z3) (addC x2 z2)).map u64V, 0⟩), (5, ⟨true, b5, 0, 95, (mulC (addC x3 z3) (subC x2 z2)).map u64V, 0⟩), (7, ⟨true, b7, 0, 95, (List.replicate 5 0#64).map u64V, 0⟩)]) := by
     refine hGo ?_
     refine At.bStep [6] (by kernel_rfl) (by simp) ?_
     refine At.bS false (by kernel_rfl) (S_alloc (some 6) 6 (zs := (List.replicate 5 0#64).map u64V) rfl ze95 rfl (fun b6 => ?_))
     exact At.into (hGi (hG2_2 b6 b7)) rfl rfl
    have hG2_5  : G 4 #[true, true, true, true, true, true, false, false, false, false] (frOf [(0, ptr bl 0), (4, ptr b4 0), (5, ptr b5 0), (53, .agg ((mulC (addC x2 z2) (addC x2 z2)).map u64V).toArray), (56, .agg ((mulC (subC x2 z2) (subC x2 z2)).map u64V).toArray)]) (hOf [(0, ⟨true, bl, 0, 99, [(x1).map u64V, (x2).map u64V, (z2).map u64V, (x3).map u64V, (z3).map u64V].flatten, 0⟩), (4, ⟨true, b4, 0, 95, (mulC (subC x3 z3) (addC x2 z2)).map u64V, 0⟩), (5, ⟨true, b5, 0, 95, (mulC (addC x3 z3) (subC x2 z2)).map u64V, 0⟩)]) := by
     refine hGo ?_
     refine At.bStep [6, 7] (by kernel_rfl) (by simp) ?_
     refine ⟨?_, ?_⟩
     ·
      refine At.bS false (by kernel_rfl) (S_alloc (some 6) 6 (zs := (List.replicate 5 0#64).map u64V) rfl ze95 rfl (fun b6 => ?_))
      exact At.into (hGi (hG2_3 b6)) rfl rfl
     ·
      refine At.bS false (by kernel_rfl) (S_alloc (some 7) 7 (zs := (List.replicate 5 0#64).map u64V) rfl ze95 rfl (fun b7 => ?_))
      exact At.into (hGi (hG2_4 b7)) rfl rfl
    have hG2_6 (b6 : Nat) (b7 : Nat) : G 4 #[true, true, true, true, false, false, true, true, false, false] (frOf [(0, ptr bl 0), (3, ptr b3 0), (4, ptr b4 0), (5, ptr b5 0), (6, ptr b6 0), (7, ptr b7 0), (53, .agg ((mulC (addC x2 z2) (addC x2 z2)).map u64V).toArray), (54, .agg ((subC x2 z2).map u64V).toArray)]) (hOf [(0, ⟨true, bl, 0, 99, [(x1).map u64V, (x2).map u64V, (z2).map u64V, (x3).map u64V, (z3).map u64V].flatten, 0⟩), (3, ⟨true, b3, 0, 95, (subC x2 z2).map u64V, 0⟩), (4, ⟨true, b4, 0, 95, (mulC (subC x3 z3) (addC x2 z2)).map u64V, 0⟩), (5, ⟨true, b5, 0, 95, (mulC (addC x3 z3) (subC x2 z2)).map u64V, 0⟩), (6, ⟨true, b6, 0, 95, (List.replicate 5 0#64).map u64V, 0⟩), (7, ⟨true, b7, 0, 95, (List.replicate 5 0#64).map u64V, 0⟩)]) := by
     refine hGo ?_
     refine At.bStep [4] (by kernel_rfl) (by simp) ?_
     refine At.bSQ (some 55) (Q_loadA (k := 3) rfl rfl Try.underlying95 rfl sz95 LN rfl) ?_
     refine At.bC  5 (some 56) [] (vs := [_, _]) (by kernel_rfl) (by kernel_rfl) rfl en54 rfl V0 (c_mulC (a := (subC x2 z2)) (b := (subC x2 z2)) LN LN BD BD) ?_
     exact At.into (hGi (hG2_2 b6 b7)) rfl rfl
    have hG2_7 (b6 : Nat) (b7 : Nat) : G 4 #[true, true, true, false, true, false, true, true, false, false] (frOf [(0, ptr bl 0), (3, ptr b3 0), (4, ptr b4 0), (5, ptr b5 0), (6, ptr b6 0), (7, ptr b7 0), (53, .agg ((mulC (addC x2 z2) (addC x2 z2)).map u64V).toArray), (55, .agg ((subC x2 z2).map u64V).toArray)]) (hOf [(0, ⟨true, bl, 0, 99, [(x1).map u64V, (x2).map u64V, (z2).map u64V, (x3).map u64V, (z3).map u64V].flatten, 0⟩), (3, ⟨true, b3, 0, 95, (subC x2 z2).map u64V, 0⟩), (4, ⟨true, b4, 0, 95, (mulC (subC x3 z3) (addC x2 z2)).map u64V, 0⟩), (5, ⟨true, b5, 0, 95, (mulC (addC x3 z3) (subC x2 z2)).map u64V, 0⟩), (6, ⟨true, b6, 0, 95, (List.replicate 5 0#64).map u64V, 0⟩), (7, ⟨true, b7, 0, 95, (List.replicate 5 0#64).map u64V, 0⟩)]) := by
     refine hGo ?_
     refine At.bStep [3] (by kernel_rfl) (by simp) ?_
     refine At.bSQ (some 54) (Q_loadA (k := 3) rfl rfl Try.underlying95 rfl sz95 LN rfl) ?_
     refine At.bC  5 (some 56) [] (vs := [_, _]) (by kernel_rfl) (by kernel_rfl) rfl en54 rfl V0 (c_mulC (a := (subC x2 z2)) (b := (subC x2 z2)) LN LN BD BD) ?_
     exact At.into (hGi (hG2_2 b6 b7)) rfl rfl
    have hG2_8 (b6 : Nat) : G 5 #[true, true, true, true, false, false, true, false, false, false] (frOf [(0, ptr bl 0), (3, ptr b3 0), (4, ptr b4 0), (5, ptr b5 0), (6, ptr b6 0), (53, .agg ((mulC (addC x2 z2) (addC x2 z2)).map u64V).toArray), (54, .agg ((subC x2 z2).map u64V).toArray)]) (hOf [(0, ⟨true, bl, 0, 99, [(x1).map u64V, (x2).map u64V, (z2).map u64V, (x3).map u64V, (z3).map u64V].flatten, 0⟩), (3, ⟨true, b3, 0, 95, (subC x2 z2).map u64V, 0⟩), (4, ⟨true, b4, 0, 95, (mulC (subC x3 z3) (addC x2 z2)).map u64V, 0⟩), (5, ⟨true, b5, 0, 95, (mulC (addC x3 z3) (subC x2 z2)).map u64V, 0⟩), (6, ⟨true, b6, 0, 95, (List.replicate 5 0#64).map u64V, 0⟩)]) := by
     refine hGo ?_
     refine At.bStep [4, 7] (by kernel_rfl) (by simp) ?_
     refine ⟨?_, ?_⟩
     ·
      refine At.bSQ (some 55) (Q_loadA (k := 3) rfl rfl Try.underlying95 rfl sz95 LN rfl) ?_
      refine At.bC  5 (some 56) [] (vs := [_, _]) (by kernel_rfl) (by kernel_rfl) rfl en54 rfl V0 (c_mulC (a := (subC x2 z2)) (b := (subC x2 z2)) LN LN BD BD) ?_
      exact At.into (hGi (hG2_3 b6)) rfl rfl
     ·
      refine At.bS false (by kernel_rfl) (S_alloc (some 7) 7 (zs := (List.replicate 5 0#64).map u64V) rfl ze95 rfl (fun b7 => ?_))
      exact At.into (hGi (hG2_6 b6 b7)) rfl rfl
    have hG2_9 (b7 : Nat) : G 5 #[true, true, true, true, false, false, false, true, false, false] (frOf [(0, ptr bl 0), (3, ptr b3 0), (4, ptr b4 0), (5, ptr b5 0), (7, ptr b7 0), (53, .agg ((mulC (addC x2 z2) (addC x2 z2)).map u64V).toArray), (54, .agg ((subC x2 z2).map u64V).toArray)]) (hOf [(0, ⟨true, bl, 0, 99, [(x1).map u64V, (x2).map u64V, (z2).map u64V, (x3).map u64V, (z3).map u64V].flatten, 0⟩), (3, ⟨true, b3, 0, 95, (subC x2 z2).map u64V, 0⟩), (4, ⟨true, b4, 0, 95, (mulC (subC x3 z3) (addC x2 z2)).map u64V, 0⟩), (5, ⟨true, b5, 0, 95, (mulC (addC x3 z3) (subC x2 z2)).map u64V, 0⟩), (7, ⟨true, b7, 0, 95, (List.replicate 5 0#64).map u64V, 0⟩)]) := by
     refine hGo ?_
     refine At.bStep [4, 6] (by kernel_rfl) (by simp) ?_
     refine ⟨?_, ?_⟩
     ·
      refine At.bSQ (some 55) (Q_loadA (k := 3) rfl rfl Try.underlying95 rfl sz95 LN rfl) ?_
      refine At.bC  5 (some 56) [] (vs := [_, _]) (by kernel_rfl) (by kernel_rfl) rfl en54 rfl V0 (c_mulC (a := (subC x2 z2)) (b := (subC x2 z2)) LN LN BD BD) ?_
      exact At.into (hGi (hG2_4 b7)) rfl rfl
     ·
      refine At.bS false (by kernel_rfl) (S_alloc (some 6) 6 (zs := (List.replicate 5 0#64).map u64V) rfl ze95 rfl (fun b6 => ?_))
      exact At.into (hGi (hG2_6 b6 b7)) rfl rfl
    have hG2_10 (b6 : Nat) : G 5 #[true, true, true, false, true, false, true, false, false, false] (frOf [(0, ptr bl 0), (3, ptr b3 0), (4, ptr b4 0), (5, ptr b5 0), (6, ptr b6 0), (53, .agg ((mulC (addC x2 z2) (addC x2 z2)).map u64V).toArray), (55, .agg ((subC x2 z2).map u64V).toArray)]) (hOf [(0, ⟨true, bl, 0, 99, [(x1).map u64V, (x2).map u64V, (z2).map u64V, (x3).map u64V, (z3).map u64V].flatten, 0⟩), (3, ⟨true, b3, 0, 95, (subC x2 z2).map u64V, 0⟩), (4, ⟨true, b4, 0, 95, (mulC (subC x3 z3) (addC x2 z2)).map u64V, 0⟩), (5, ⟨true, b5, 0, 95, (mulC (addC x3 z3) (subC x2 z2)).map u64V, 0⟩), (6, ⟨true, b6, 0, 95, (List.replicate 5 0#64).map u64V, 0⟩)]) := by
     refine hGo ?_
     refine At.bStep [3, 7] (by kernel_rfl) (by simp) ?_
     refine ⟨?_, ?_⟩
     ·
      refine At.bSQ (some 54) (Q_loadA (k := 3) rfl rfl Try.underlying95 rfl sz95 LN rfl) ?_
      refine At.bC  5 (some 56) [] (vs := [_, _]) (by kernel_rfl) (by kernel_rfl) rfl en54 rfl V0 (c_mulC (a := (subC x2 z2)) (b := (subC x2 z2)) LN LN BD BD) ?_
      exact At.into (hGi (hG2_3 b6)) rfl rfl
     ·
      refine At.bS false (by kernel_rfl) (S_alloc (some 7) 7 (zs := (List.replicate 5 0#64).map u64V) rfl ze95 rfl (fun b7 => ?_))
      exact At.into (hGi (hG2_7 b6 b7)) rfl rfl
    have hG2_11 (b7 : Nat) : G 5 #[true, true, true, false, true, false, false, true, false, false] (frOf [(0, ptr bl 0), (3, ptr b3 0), (4, ptr b4 0), (5, ptr b5 0), (7, ptr b7 0), (53, .agg ((mulC (addC x2 z2) (addC x2 z2)).map u64V).toArray), (55, .agg ((subC x2 z2).map u64V).toArray)]) (hOf [(0, ⟨true, bl, 0, 99, [(x1).map u64V, (x2).map u64V, (z2).map u64V, (x3).map u64V, (z3).map u64V].flatten, 0⟩), (3, ⟨true, b3, 0, 95, (subC x2 z2).map u64V, 0⟩), (4, ⟨true, b4, 0, 95, (mulC (subC x3 z3) (addC x2 z2)).map u64V, 0⟩), (5, ⟨true, b5, 0, 95, (mulC (addC x3 z3) (subC x2 z2)).map u64V, 0⟩), (7, ⟨true, b7, 0, 95, (List.replicate 5 0#64).map u64V, 0⟩)]) := by
     refine hGo ?_
     refine At.bStep [3, 6] (by kernel_rfl) (by simp) ?_
     refine ⟨?_, ?_⟩
     ·
      refine At.bSQ (some 54) (Q_loadA (k := 3) rfl rfl Try.underlying95 rfl sz95 LN rfl) ?_
      refine At.bC  5 (some 56) [] (vs := [_, _]) (by kernel_rfl) (by kernel_rfl) rfl en54 rfl V0 (c_mulC (a := (subC x2 z2)) (b := (subC x2 z2)) LN LN BD BD) ?_
      exact At.into (hGi (hG2_4 b7)) rfl rfl
     ·
      refine At.bS false (by kernel_rfl) (S_alloc (some 6) 6 (zs := (List.replicate 5 0#64).map u64V) rfl ze95 rfl (fun b6 => ?_))
      exact At.into (hGi (hG2_7 b6 b7)) rfl rfl
    have hG2_12 (b6 : Nat) (b7 : Nat) : G 5 #[true, true, true, false, false, false, true, true, false, false] (frOf [(0, ptr bl 0), (3, ptr b3 0), (4, ptr b4 0), (5, ptr b5 0), (6, ptr b6 0), (7, ptr b7 0), (53, .agg ((mulC (addC x2 z2) (addC x2 z2)).map u64V).toArray)]) (hOf [(0, ⟨true, bl, 0, 99, [(x1).map u64V, (x2).map u64V, (z2).map u64V, (x3).map u64V, (z3).map u64V].flatten, 0⟩), (3, ⟨true, b3, 0, 95, (subC x2 z2).map u64V, 0⟩), (4, ⟨true, b4, 0, 95, (mulC (subC x3 z3) (addC x2 z2)).map u64V, 0⟩), (5, ⟨true, b5, 0, 95, (mulC (addC x3 z3) (subC x2 z2)).map u64V, 0⟩), (6, ⟨true, b6, 0, 95, (List.replicate 5 0#64).map u64V, 0⟩), (7, ⟨true, b7, 0, 95, (List.replicate 5 0#64).map u64V, 0⟩)]) := by
     refine hGo ?_
     refine At.bStep [3, 4] (by kernel_rfl) (by simp) ?_
     refine ⟨?_, ?_⟩
     ·
      refine At.bSQ (some 54) (Q_loadA (k := 3) rfl rfl Try.underlying95 rfl sz95 LN rfl) ?_
      exact At.into (hGi (hG2_6 b6 b7)) rfl rfl
     ·
      refine At.bSQ (some 55) (Q_loadA (k := 3) rfl rfl Try.underlying95 rfl sz95 LN rfl) ?_
      exact At.into (hGi (hG2_7 b6 b7)) rfl rfl
    have hG2_13  : G 6 #[true, true, true, true, false, false, false, false, false, false] (frOf [(0, ptr bl 0), (3, ptr b3 0), (4, ptr b4 0), (5, ptr b5 0), (53, .agg ((mulC (addC x2 z2) (addC x2 z2)).map u64V).toArray), (54, .agg ((subC x2 z2).map u64V).toArray)]) (hOf [(0, ⟨true, bl, 0, 99, [(x1).map u64V, (x2).map u64V, (z2).map u64V, (x3).map u64V, (z3).map u64V].flatten, 0⟩), (3, ⟨true, b3, 0, 95, (subC x2 z2).map u64V, 0⟩), (4, ⟨true, b4, 0, 95, (mulC (subC x3 z3) (addC x2 z2)).map u64V, 0⟩), (5, ⟨true, b5, 0, 95, (mulC (addC x3 z3) (subC x2 z2)).map u64V, 0⟩)]) := by
     refine hGo ?_
     refine At.bStep [4, 6, 7] (by kernel_rfl) (by simp) ?_
     refine ⟨?_, ?_, ?_⟩
     ·
      refine At.bSQ (some 55) (Q_loadA (k := 3) rfl rfl Try.underlying95 rfl sz95 LN rfl) ?_
      refine At.bC  5 (some 56) [] (vs := [_, _]) (by kernel_rfl) (by kernel_rfl) rfl en54 rfl V0 (c_mulC (a := (subC x2 z2)) (b := (subC x2 z2)) LN LN BD BD) ?_
      exact At.into (hGi (hG2_5 )) rfl rfl
     ·
      refine At.bS false (by kernel_rfl) (S_alloc (some 6) 6 (zs := (List.replicate 5 0#64).map u64V) rfl ze95 rfl (fun b6 => ?_))
      exact At.into (hGi (hG2_8 b6)) rfl rfl
     ·
      refine At.bS false (by kernel_rfl) (S_alloc (some 7) 7 (zs := (List.replicate 5 0#64).map u64V) rfl ze95 rfl (fun b7 => ?_))
      exact At.into (hGi (hG2_9 b7)) rfl rfl
    have hG2_14  : G 6 #[true, true, true, false, true, false, false, false, false, false] (frOf [(0, ptr bl 0), (3, ptr b3 0), (4, ptr b4 0), (5, ptr b5 0), (53, .agg ((mulC (addC x2 z2) (addC x2 z2)).map u64V).toArray), (55, .agg ((subC x2 z2).map u64V).toArray)]) (hOf [(0, ⟨true, bl, 0, 99, [(x1).map u64V, (x2).map u64V, (z2).map u64V, (x3).map u64V, (z3).map u64V].flatten, 0⟩), (3, ⟨true, b3, 0, 95, (subC x2 z2).map u64V, 0⟩), (4, ⟨true, b4, 0, 95, (mulC (subC x3 z3) (addC x2 z2)).map u64V, 0⟩), (5, ⟨true, b5, 0, 95, (mulC (addC x3 z3) (subC x2 z2)).map u64V, 0⟩)]) := by
     refine hGo ?_
     refine At.bStep [3, 6, 7] (by kernel_rfl) (by simp) ?_
     refine ⟨?_, ?_, ?_⟩
     ·
      refine At.bSQ (some 54) (Q_loadA (k := 3) rfl rfl Try.underlying95 rfl sz95 LN rfl) ?_
      refine At.bC  5 (some 56) [] (vs := [_, _]) (by kernel_rfl) (by kernel_rfl) rfl en54 rfl V0 (c_mulC (a := (subC x2 z2)) (b := (subC x2 z2)) LN LN BD BD) ?_
      exact At.into (hGi (hG2_5 )) rfl rfl
     ·
      refine At.bS false (by kernel_rfl) (S_alloc (some 6) 6 (zs := (List.replicate 5 0#64).map u64V) rfl ze95 rfl (fun b6 => ?_))
      exact At.into (hGi (hG2_10 b6)) rfl rfl
     ·
      refine At.bS false (by kernel_rfl) (S_alloc (some 7) 7 (zs := (List.replicate 5 0#64).map u64V) rfl ze95 rfl (fun b7 => ?_))
      exact At.into (hGi (hG2_11 b7)) rfl rfl
    have hG2_15 (b6 : Nat) : G 6 #[true, true, true, false, false, false, true, false, false, false] (frOf [(0, ptr bl 0), (3, ptr b3 0), (4, ptr b4 0), (5, ptr b5 0), (6, ptr b6 0), (53, .agg ((mulC (addC x2 z2) (addC x2 z2)).map u64V).toArray)]) (hOf [(0, ⟨true, bl, 0, 99, [(x1).map u64V, (x2).map u64V, (z2).map u64V, (x3).map u64V, (z3).map u64V].flatten, 0⟩), (3, ⟨true, b3, 0, 95, (subC x2 z2).map u64V, 0⟩), (4, ⟨true, b4, 0, 95, (mulC (subC x3 z3) (addC x2 z2)).map u64V, 0⟩), (5, ⟨true, b5, 0, 95, (mulC (addC x3 z3) (subC x2 z2)).map u64V, 0⟩), (6, ⟨true, b6, 0, 95, (List.replicate 5 0#64).map u64V, 0⟩)]) := by
     refine hGo ?_
     refine At.bStep [3, 4, 7] (by kernel_rfl) (by simp) ?_
     refine ⟨?_, ?_, ?_⟩
     ·
      refine At.bSQ (some 54) (Q_loadA (k := 3) rfl rfl Try.underlying95 rfl sz95 LN rfl) ?_
      exact At.into (hGi (hG2_8 b6)) rfl rfl
     ·
      refine At.bSQ (some 55) (Q_loadA (k := 3) rfl rfl Try.underlying95 rfl sz95 LN rfl) ?_
      exact At.into (hGi (hG2_10 b6)) rfl rfl
     ·
      refine At.bS false (by kernel_rfl) (S_alloc (some 7) 7 (zs := (List.replicate 5 0#64).map u64V) rfl ze95 rfl (fun b7 => ?_))
      exact At.into (hGi (hG2_12 b6 b7)) rfl rfl
    have hG2_16 (b7 : Nat) : G 6 #[true, true, true, false, false, false, false, true, false, false] (frOf [(0, ptr bl 0), (3, ptr b3 0), (4, ptr b4 0), (5, ptr b5 0), (7, ptr b7 0), (53, .agg ((mulC (addC x2 z2) (addC x2 z2)).map u64V).toArray)]) (hOf [(0, ⟨true, bl, 0, 99, [(x1).map u64V, (x2).map u64V, (z2).map u64V, (x3).map u64V, (z3).map u64V].flatten, 0⟩), (3, ⟨true, b3, 0, 95, (subC x2 z2).map u64V, 0⟩), (4, ⟨true, b4, 0, 95, (mulC (subC x3 z3) (addC x2 z2)).map u64V, 0⟩), (5, ⟨true, b5, 0, 95, (mulC (addC x3 z3) (subC x2 z2)).map u64V, 0⟩), (7, ⟨true, b7, 0, 95, (List.replicate 5 0#64).map u64V, 0⟩)]) := by
     refine hGo ?_
     refine At.bStep [3, 4, 6] (by kernel_rfl) (by simp) ?_
     refine ⟨?_, ?_, ?_⟩
     ·
      refine At.bSQ (some 54) (Q_loadA (k := 3) rfl rfl Try.underlying95 rfl sz95 LN rfl) ?_
      exact At.into (hGi (hG2_9 b7)) rfl rfl
     ·
      refine At.bSQ (some 55) (Q_loadA (k := 3) rfl rfl Try.underlying95 rfl sz95 LN rfl) ?_
      exact At.into (hGi (hG2_11 b7)) rfl rfl
     ·
      refine At.bS false (by kernel_rfl) (S_alloc (some 6) 6 (zs := (List.replicate 5 0#64).map u64V) rfl ze95 rfl (fun b6 => ?_))
      exact At.into (hGi (hG2_12 b6 b7)) rfl rfl
    have hG2_17  : G 7 #[true, true, true, false, false, false, false, false, false, false] (frOf [(0, ptr bl 0), (3, ptr b3 0), (4, ptr b4 0), (5, ptr b5 0), (53, .agg ((mulC (addC x2 z2) (addC x2 z2)).map u64V).toArray)]) (hOf [(0, ⟨true, bl, 0, 99, [(x1).map u64V, (x2).map u64V, (z2).map u64V, (x3).map u64V, (z3).map u64V].flatten, 0⟩), (3, ⟨true, b3, 0, 95, (subC x2 z2).map u64V, 0⟩), (4, ⟨true, b4, 0, 95, (mulC (subC x3 z3) (addC x2 z2)).map u64V, 0⟩), (5, ⟨true, b5, 0, 95, (mulC (addC x3 z3) (subC x2 z2)).map u64V, 0⟩)]) := by
     refine hGo ?_
     refine At.bStep [3, 4, 6, 7] (by kernel_rfl) (by simp) ?_
     refine ⟨?_, ?_, ?_, ?_⟩
     ·
      refine At.bSQ (some 54) (Q_loadA (k := 3) rfl rfl Try.underlying95 rfl sz95 LN rfl) ?_
      exact At.into (hGi (hG2_13 )) rfl rfl
     ·
      refine At.bSQ (some 55) (Q_loadA (k := 3) rfl rfl Try.underlying95 rfl sz95 LN rfl) ?_
      exact At.into (hGi (hG2_14 )) rfl rfl
     ·
      refine At.bS false (by kernel_rfl) (S_alloc (some 6) 6 (zs := (List.replicate 5 0#64).map u64V) rfl ze95 rfl (fun b6 => ?_))
      exact At.into (hGi (hG2_15 b6)) rfl rfl
     ·
      refine At.bS false (by kernel_rfl) (S_alloc (some 7) 7 (zs := (List.replicate 5 0#64).map u64V) rfl ze95 rfl (fun b7 => ?_))
      exact At.into (hGi (hG2_16 b7)) rfl rfl
    refine hGo ?_
    refine At.bQ  0 (some 51) (Q_loadA (k := 2) rfl rfl Try.underlying95 rfl sz95 LN rfl) (by kernel_rfl) (by kernel_rfl) ?_
    refine At.bQ  1 (some 52) (Q_loadA (k := 2) rfl rfl Try.underlying95 rfl sz95 LN rfl) (by kernel_rfl) (by kernel_rfl) ?_
    refine At.bC  2 (some 53) [] (vs := [_, _]) (by kernel_rfl) (by kernel_rfl) rfl en54 rfl V0 (c_mulC (a := (addC x2 z2)) (b := (addC x2 z2)) LN LN BD BD) ?_
    exact At.into (hGi (hG2_17 )) rfl rfl
   ·
    rintro fr H ⟨b6, b7, rfl, rfl, -⟩
    refine At.next ?_
    refine At.seq ?_
    refine At.region ?_
    refine At.q (some 57) (Q_loadA (k := 6) rfl rfl Try.underlying95 rfl sz95 LN rfl) ?_
    refine At.q (some 58) (Q_loadA (k := 7) rfl rfl Try.underlying95 rfl sz95 LN rfl) ?_
    refine At.s (S_callV (some 59) [] [] (vs := [_, _]) rfl en99 rfl V0 (by simp) (c_sub (a := (mulC (addC x2 z2) (addC x2 z2))) (b := (mulC (subC x2 z2) (subC x2 z2))) LN LN BD BD) (by rintro _ _ ⟨rfl, rfl⟩; rfl) ?_)
    rintro _ _ ⟨rfl, rfl⟩
    have := subC_len (mulC (addC x2 z2) (addC x2 z2)) (mulC (subC x2 z2) (subC x2 z2))
    refine At.s (S_alloc (some 8) 8 (zs := (List.replicate 5 0#64).map u64V) rfl ze95 rfl (fun b8 => ?_))
    refine At.s (S_storeA none (k := 8) (vs := (subC (mulC (addC x2 z2) (addC x2 z2)) (mulC (subC x2 z2) (subC x2 z2))).map u64V) rfl rfl rfl (by rw [sz95]; exact congrArg some LN) rfl (one_map (fun _ => rfl)) NG rfl LN ?_)
    refine At.nil ?_
    refine At.next ?_
    refine At.seq ?_
    have := addC_len (mulC (subC x3 z3) (addC x2 z2)) (mulC (addC x3 z3) (subC x2 z2))
    have := subC_len (mulC (subC x3 z3) (addC x2 z2)) (mulC (addC x3 z3) (subC x2 z2))
    refine At.bBruteG [8, 9] (fun fr H => ∃ (b9 : Nat) (b10 : Nat), fr = frOf [(0, ptr bl 0), (6, ptr b6 0), (7, ptr b7 0), (8, ptr b8 0), (9, ptr b9 0), (10, ptr b10 0)] ∧ H = hOf [(0, ⟨true, bl, 0, 99, [(x1).map u64V, (x2).map u64V, (z2).map u64V, (x3).map u64V, (z3).map u64V].flatten, 0⟩), (6, ⟨true, b6, 0, 95, (mulC (addC x2 z2) (addC x2 z2)).map u64V, 0⟩), (7, ⟨true, b7, 0, 95, (mulC (subC x2 z2) (subC x2 z2)).map u64V, 0⟩), (8, ⟨true, b8, 0, 95, (subC (mulC (addC x2 z2) (addC x2 z2)) (mulC (subC x2 z2) (subC x2 z2))).map u64V, 0⟩), (9, ⟨true, b9, 0, 95, (addC (mulC (subC x3 z3) (addC x2 z2)) (mulC (addC x3 z3) (subC x2 z2))).map u64V, 0⟩), (10, ⟨true, b10, 0, 95, (subC (mulC (subC x3 z3) (addC x2 z2)) (mulC (addC x3 z3) (subC x2 z2))).map u64V, 0⟩)] ∧ True) (by kernel_rfl) ?_ ?_
    ·
     intro Kb hKb G hGi hGo
     have hG4_0 (b9 : Nat) (b10 : Nat) : G 0 #[true, true, true, true, true, true, true, true, true, true] (frOf [(0, ptr bl 0), (6, ptr b6 0), (7, ptr b7 0), (8, ptr b8 0), (9, ptr b9 0), (10, ptr b10 0)]) (hOf [(0, ⟨true, bl, 0, 99, [(x1).map u64V, (x2).map u64V, (z2).map u64V, (x3).map u64V, (z3).map u64V].flatten, 0⟩), (6, ⟨true, b6, 0, 95, (mulC (addC x2 z2) (addC x2 z2)).map u64V, 0⟩), (7, ⟨true, b7, 0, 95, (mulC (subC x2 z2) (subC x2 z2)).map u64V, 0⟩), (8, ⟨true, b8, 0, 95, (subC (mulC (addC x2 z2) (addC x2 z2)) (mulC (subC x2 z2) (subC x2 z2))).map u64V, 0⟩), (9, ⟨true, b9, 0, 95, (addC (mulC (subC x3 z3) (addC x2 z2)) (mulC (addC x3 z3) (subC x2 z2))).map u64V, 0⟩), (10, ⟨true, b10, 0, 95, (subC (mulC (subC x3 z3) (addC x2 z2)) (mulC (addC x3 z3) (subC x2 z2))).map u64V, 0⟩)]) := by
      refine hGo ?_
      refine At.bEnd (by kernel_rfl) ?_
      refine At.next ?_
      exact hKb _ _ ⟨b9, b10, rfl, rfl, trivial⟩
     have hG4_1 (b9 : Nat) (b10 : Nat) : G 1 #[true, true, true, true, true, true, true, true, true, false] (frOf [(0, ptr bl 0), (6, ptr b6 0), (7, ptr b7 0), (8, ptr b8 0), (9, ptr b9 0), (10, ptr b10 0), (65, .agg ((subC (mulC (subC x3 z3) (addC x2 z2)) (mulC (addC x3 z3) (subC x2 z2))).map u64V).toArray)]) (hOf [(0, ⟨true, bl, 0, 99, [(x1).map u64V, (x2).map u64V, (z2).map u64V, (x3).map u64V, (z3).map u64V].flatten, 0⟩), (6, ⟨true, b6, 0, 95, (mulC (addC x2 z2) (addC x2 z2)).map u64V, 0⟩), (7, ⟨true, b7, 0, 95, (mulC (subC x2 z2) (subC x2 z2)).map u64V, 0⟩), (8, ⟨true, b8, 0, 95, (subC (mulC (addC x2 z2) (addC x2 z2)) (mulC (subC x2 z2) (subC x2 z2))).map u64V, 0⟩), (9, ⟨true, b9, 0, 95, (addC (mulC (subC x3 z3) (addC x2 z2)) (mulC (addC x3 z3) (subC x2 z2))).map u64V, 0⟩), (10, ⟨true, b10, 0, 95, (List.replicate 5 0#64).map u64V, 0⟩)]) := by
      refine hGo ?_
      refine At.bStep [9] (by kernel_rfl) (by simp) ?_
      refine At.bS true (by kernel_rfl) (S_storeA none (k := 10) (vs := (subC (mulC (subC x3 z3) (addC x2 z2)) (mulC (addC x3 z3) (subC x2 z2))).map u64V) rfl rfl rfl (by rw [sz95]; exact congrArg some LN) rfl (one_map (fun _ => rfl)) NG rfl LN ?_)
      exact At.into (hGi (hG4_0 b9 b10)) rfl rfl
     have hG4_2 (b9 : Nat) (b10 : Nat) : G 2 #[true, true, true, true, true, true, true, true, false, false] (frOf [(0, ptr bl 0), (6, ptr b6 0), (7, ptr b7 0), (8, ptr b8 0), (9, ptr b9 0), (10, ptr b10 0), (62, .agg ((addC (mulC (subC x3 z3) (addC x2 z2)) (mulC (addC x3 z3) (subC x2 z2))).map u64V).toArray), (65, .agg ((subC (mulC (subC x3 z3) (addC x2 z2)) (mulC (addC x3 z3) (subC x2 z2))).map u64V).toArray)]) (hOf [(0, ⟨true, bl, 0, 99, [(x1).map u64V, (x2).map u64V, (z2).map u64V, (x3).map u64V, (z3).map u64V].flatten, 0⟩), (6, ⟨true, b6, 0, 95, (mulC (addC x2 z2) (addC x2 z2)).map u64V, 0⟩), (7, ⟨true, b7, 0, 95, (mulC (subC x2 z2) (subC x2 z2)).map u64V, 0⟩), (8, ⟨true, b8, 0, 95, (subC (mulC (addC x2 z2) (addC x2 z2)) (mulC (subC x2 z2) (subC x2 z2))).map u64V, 0⟩), (9, ⟨true, b9, 0, 95, (List.replicate 5 0#64).map u64V, 0⟩), (10, ⟨true, b10, 0, 95, (List.replicate 5 0#64).map u64V, 0⟩)]) := by
      refine hGo ?_
      refine At.bStep [8] (by kernel_rfl) (by simp) ?_
      refine At.bS true (by kernel_rfl) (S_storeA none (k := 9) (vs := (addC (mulC (subC x3 z3) (addC x2 z2)) (mulC (addC x3 z3) (subC x2 z2))).map u64V) rfl rfl rfl (by rw [sz95]; exact congrArg some LN) rfl (one_map (fun _ => rfl)) NG rfl LN ?_)
      exact At.into (hGi (hG4_1 b9 b10)) rfl rfl
     have hG4_3 (b9 : Nat) : G 3 #[true, true, true, true, true, true, true, false, false, false] (frOf [(0, ptr bl 0), (6, ptr b6 0), (7, ptr b7 0), (8, ptr b8 0), (9, ptr b9 0), (62, .agg ((addC (mulC (subC x3 z3) (addC x2 z2)) (mulC (addC x3 z3) (subC x2 z2))).map u64V).toArray), (65, .agg ((subC (mulC (subC x3 z3) (addC x2 z2)) (mulC (addC x3 z3) (subC x2 z2))).map u64V).toArray)]) (hOf [(0, ⟨true, bl, 0, 99, [(x1).map u64V, (x2).map u64V, (z2).map u64V, (x3).map u64V, (z3).map u64V].flatten, 0⟩), (6, ⟨true, b6, 0, 95, (mulC (addC x2 z2) (addC x2 z2)).map u64V, 0⟩), (7, ⟨true, b7, 0, 95, (mulC (subC x2 z2) (subC x2 z2)).map u64V, 0⟩), (8, ⟨true, b8, 0, 95, (subC (mulC (addC x2 z2) (addC x2 z2)) (mulC (subC x2 z2) (subC x2 z2))).map u64V, 0⟩), (9, ⟨true, b9, 0, 95, (List.replicate 5 0#64).map u64V, 0⟩)]) := by
      refine hGo ?_
      refine At.bStep [7] (by kernel_rfl) (by simp) ?_
      refine At.bS false (by kernel_rfl) (S_alloc (some 10) 10 (zs := (List.replicate 5 0#64).map u64V) rfl ze95 rfl (fun b10 => ?_))
      exact At.into (hGi (hG4_2 b9 b10)) rfl rfl
     have hG4_4 (b10 : Nat) : G 3 #[true, true, true, true, true, true, false, true, false, false] (frOf [(0, ptr bl 0), (6, ptr b6 0), (7, ptr b7 0), (8, ptr b8 0), (10, ptr b10 0), (62, .agg ((addC (mulC (subC x3 z3) (addC x2 z2)) (mulC (addC x3 z3) (subC x2 z2))).map u64V).toArray), (65, .agg ((subC (mulC (subC x3 z3) (addC x2 z2)) (mulC (addC x3 z3) (subC x2 z2))).map u64V).toArray)]) (hOf [(0, ⟨true, bl, 0, 99, [(x1).map u64V, (x2).map u64V, (z2).map u64V, (x3).map u64V, (z3).map u64V].flatten, 0⟩), (6, ⟨true, b6, 0, 95, (mulC (addC x2 z2) (addC x2 z2)).map u64V, 0⟩), (7, ⟨true, b7, 0, 95, (mulC (subC x2 z2) (subC x2 z2)).map u64V, 0⟩), (8, ⟨true, b8, 0, 95, (subC (mulC (addC x2 z2) (addC x2 z2)) (mulC (subC x2 z2) (subC x2 z2))).map u64V, 0⟩), (10, ⟨true, b10, 0, 95, (List.replicate 5 0#64).map u64V, 0⟩)]) := by
      refine hGo ?_
      refine At.bStep [6] (by kernel_rfl) (by simp) ?_
      refine At.bS false (by kernel_rfl) (S_alloc (some 9) 9 (zs := (List.replicate 5 0#64).map u64V) rfl ze95 rfl (fun b9 => ?_))
      exact At.into (hGi (hG4_2 b9 b10)) rfl rfl
     have hG4_5  : G 4 #[true, true, true, true, true, true, false, false, false, false] (frOf [(0, ptr bl 0), (6, ptr b6 0), (7, ptr b7 0), (8, ptr b8 0), (62, .agg ((addC (mulC (subC x3 z3) (addC x2 z2)) (mulC (addC x3 z3) (subC x2 z2))).map u64V).toArray), (65, .agg ((subC (mulC (subC x3 z3) (addC x2 z2)) (mulC (addC x3 z3) (subC x2 z2))).map u64V).toArray)]) (hOf [(0, ⟨true, bl, 0, 99, [(x1).map u64V, (x2).map u64V, (z2).map u64V, (x3).map u64V, (z3).map u64V].flatten, 0⟩), (6, ⟨true, b6, 0, 95, (mulC (addC x2 z2) (addC x2 z2)).map u64V, 0⟩), (7, ⟨true, b7, 0, 95, (mulC (subC x2 z2) (subC x2 z2)).map u64V, 0⟩), (8, ⟨true, b8, 0, 95, (subC (mulC (addC x2 z2) (addC x2 z2)) (mulC (subC x2 z2) (subC x2 z2))).map u64V, 0⟩)]) := by
      refine hGo ?_
      refine At.bStep [6, 7] (by kernel_rfl) (by simp) ?_
      refine ⟨?_, ?_⟩
      ·
       refine At.bS false (by kernel_rfl) (S_alloc (some 9) 9 (zs := (List.replicate 5 0#64).map u64V) rfl ze95 rfl (fun b9 => ?_))
       exact At.into (hGi (hG4_3 b9)) rfl rfl
      ·
       refine At.bS false (by kernel_rfl) (S_alloc (some 10) 10 (zs := (List.replicate 5 0#64).map u64V) rfl ze95 rfl (fun b10 => ?_))
       exact At.into (hGi (hG4_4 b10)) rfl rfl
     have hG4_6 (b9 : Nat) (b10 : Nat) : G 4 #[true, true, true, true, false, false, true, true, false, false] (frOf [(0, ptr bl 0), (5, ptr b5 0), (6, ptr b6 0), (7, ptr b7 0), (8, ptr b8 0), (9, ptr b9 0), (10, ptr b10 0), (62, .agg ((addC (mulC (subC x3 z3) (addC x2 z2)) (mulC (addC x3 z3) (subC x2 z2))).map u64V).toArray), (63, .agg ((mulC (subC x3 z3) (addC x2 z2)).map u64V).toArray)]) (hOf [(0, ⟨true, bl, 0, 99, [(x1).map u64V, (x2).map u64V, (z2).map u64V, (x3).map u64V, (z3).map u64V].flatten, 0⟩), (5, ⟨true, b5, 0, 95, (mulC (addC x3 z3) (subC x2 z2)).map u64V, 0⟩), (6, ⟨true, b6, 0, 95, (mulC (addC x2 z2) (addC x2 z2)).map u64V, 0⟩), (7, ⟨true, b7, 0, 95, (mulC (subC x2 z2) (subC x2 z2)).map u64V, 0⟩), (8, ⟨true, b8, 0, 95, (subC (mulC (addC x2 z2) (addC x2 z2)) (mulC (subC x2 z2) (subC x2 z2))).map u64V, 0⟩), (9, ⟨true, b9, 0, 95, (List.replicate 5 0#64).map u64V, 0⟩), (10, ⟨true, b10, 0, 95, (List.replicate 5 0#64).map u64V, 0⟩)]) := by
      refine hGo ?_
      refine At.bStep [4] (by kernel_rfl) (by simp) ?_
      refine At.bSQ (some 64) (Q_loadA (k := 5) rfl rfl Try.underlying95 rfl sz95 LN rfl) ?_
      refine At.bC  5 (some 65) [] (vs := [_, _]) (by kernel_rfl) (by kernel_rfl) rfl en99 rfl V0 (c_sub (a := (mulC (subC x3 z3) (addC x2 z2))) (b := (mulC (addC x3 z3) (subC x2 z2))) LN LN BD BD) ?_
      exact At.into (hGi (hG4_2 b9 b10)) rfl rfl
     have hG4_7 (b9 : Nat) (b10 : Nat) : G 4 #[true, true, true, false, true, false, true, true, false, false] (frOf [(0, ptr bl 0), (4, ptr b4 0), (6, ptr b6 0), (7, ptr b7 0), (8, ptr b8 0), (9, ptr b9 0), (10, ptr b10 0), (62, .agg ((addC (mulC (subC x3 z3) (addC x2 z2)) (mulC (addC x3 z3) (subC x2 z2))).map u64V).toArray), (64, .agg ((mulC (addC x3 z3) (subC x2 z2)).map u64V).toArray)]) (hOf [(0, ⟨true, bl, 0, 99, [(x1).map u64V, (x2).map u64V, (z2).map u64V, (x3).map u64V, (z3).map u64V].flatten, 0⟩), (4, ⟨true, b4, 0, 95, (mulC (subC x3 z3) (addC x2 z2)).map u64V, 0⟩), (6, ⟨true, b6, 0, 95, (mulC (addC x2 z2) (addC x2 z2)).map u64V, 0⟩), (7, ⟨true, b7, 0, 95, (mulC (subC x2 z2) (subC x2 z2)).map u64V, 0⟩), (8, ⟨true, b8, 0, 95, (subC (mulC (addC x2 z2) (addC x2 z2)) (mulC (subC x2 z2) (subC x2 z2))).map u64V, 0⟩), (9, ⟨true, b9, 0, 95, (List.replicate 5 0#64).map u64V, 0⟩), (10, ⟨true, b10, 0, 95, (List.replicate 5 0#64).map u64V, 0⟩)]) := by
      refine hGo ?_
      refine At.bStep [3] (by kernel_rfl) (by simp) ?_
      refine At.bSQ (some 63) (Q_loadA (k := 4) rfl rfl Try.underlying95 rfl sz95 LN rfl) ?_
      refine At.bC  5 (some 65) [] (vs := [_, _]) (by kernel_rfl) (by kernel_rfl) rfl en99 rfl V0 (c_sub (a := (mulC (subC x3 z3) (addC x2 z2))) (b := (mulC (addC x3 z3) (subC x2 z2))) LN LN BD BD) ?_
      exact At.into (hGi (hG4_2 b9 b10)) rfl rfl
     have hG4_8 (b9 : Nat) : G 5 #[true, true, true, true, false, false, true, false, false, false] (frOf [(0, ptr bl 0), (5, ptr b5 0), (6, ptr b6 0), (7, ptr b7 0), (8, ptr b8 0), (9, ptr b9 0), (62, .agg ((addC (mulC (subC x3 z3) (addC x2 z2)) (mulC (addC x3 z3) (subC x2 z2))).map u64V).toArray), (63, .agg ((mulC (subC x3 z3) (addC x2 z2)).map u64V).toArray)]) (hOf [(0, ⟨true, bl, 0, 99, [(x1).map u64V, (x2).map u64V, (z2).map u64V, (x3).map u64V, (z3).map u64V].flatten, 0⟩), (5, ⟨true, b5, 0, 95, (mulC (addC x3 z3) (subC x2 z2)).map u64V, 0⟩), (6, ⟨true, b6, 0, 95, (mulC (addC x2 z2) (addC x2 z2)).map u64V, 0⟩), (7, ⟨true, b7, 0, 95, (mulC (subC x2 z2) (subC x2 z2)).map u64V, 0⟩), (8, ⟨true, b8, 0, 95, (subC (mulC (addC x2 z2) (addC x2 z2)) (mulC (subC x2 z2) (subC x2 z2))).map u64V, 0⟩), (9, ⟨true, b9, 0, 95, (List.replicate 5 0#64).map u64V, 0⟩)]) := by
      refine hGo ?_
      refine At.bStep [4, 7] (by kernel_rfl) (by simp) ?_
      refine ⟨?_, ?_⟩
      ·
       refine At.bSQ (some 64) (Q_loadA (k := 5) rfl rfl Try.underlying95 rfl sz95 LN rfl) ?_
       refine At.bC  5 (some 65) [] (vs := [_, _]) (by kernel_rfl) (by kernel_rfl) rfl en99 rfl V0 (c_sub (a := (mulC (subC x3 z3) (addC x2 z2))) (b := (mulC (addC x3 z3) (subC x2 z2))) LN LN BD BD) ?_
       exact At.into (hGi (hG4_3 b9)) rfl rfl
      ·
       refine At.bS false (by kernel_rfl) (S_alloc (some 10) 10 (zs := (List.replicate 5 0#64).map u64V) rfl ze95 rfl (fun b10 => ?_))
       exact At.into (hGi (hG4_6 b9 b10)) rfl rfl
     have hG4_9 (b10 : Nat) : G 5 #[true, true, true, true, false, false, false, true, false, false] (frOf [(0, ptr bl 0), (5, ptr b5 0), (6, ptr b6 0), (7, ptr b7 0), (8, ptr b8 0), (10, ptr b10 0), (62, .agg ((addC (mulC (subC x3 z3) (addC x2 z2)) (mulC (addC x3 z3) (subC x2 z2))).map u64V).toArray), (63, .agg ((mulC (subC x3 z3) (addC x2 z2)).map u64V).toArray)]) (hOf [(0, ⟨true, bl, 0, 99, [(x1).map u64V, (x2).map u64V, (z2).map u64V, (x3).map u64V, (z3).map u64V].flatten, 0⟩), (5, ⟨true, b5, 0, 95, (mulC (addC x3 z3) (subC x2 z2)).map u64V, 0⟩), (6, ⟨true, b6, 0, 95, (mulC (addC x2 z2) (addC x2 z2)).map u64V, 0⟩), (7, ⟨true, b7, 0, 95, (mulC (subC x2 z2) (subC x2 z2)).map u64V, 0⟩), (8, ⟨true, b8, 0, 95, (subC (mulC (addC x2 z2) (addC x2 z2)) (mulC (subC x2 z2) (subC x2 z2))).map u64V, 0⟩), (10, ⟨true, b10, 0, 95, (List.replicate 5 0#64).map u64V, 0⟩)]) := by
      refine hGo ?_
      refine At.bStep [4, 6] (by kernel_rfl) (by simp) ?_
      refine ⟨?_, ?_⟩
      ·
       refine At.bSQ (some 64) (Q_loadA (k := 5) rfl rfl Try.underlying95 rfl sz95 LN rfl) ?_
       refine At.bC  5 (some 65) [] (vs := [_, _]) (by kernel_rfl) (by kernel_rfl) rfl en99 rfl V0 (c_sub (a := (mulC (subC x3 z3) (addC x2 z2))) (b := (mulC (addC x3 z3) (subC x2 z2))) LN LN BD BD) ?_
       exact At.into (hGi (hG4_4 b10)) rfl rfl
      ·
       refine At.bS false (by kernel_rfl) (S_alloc (some 9) 9 (zs := (List.replicate 5 0#64).map u64V) rfl ze95 rfl (fun b9 => ?_))
       exact At.into (hGi (hG4_6 b9 b10)) rfl rfl
     have hG4_10 (b9 : Nat) : G 5 #[true, true, true, false, true, false, true, false, false, false] (frOf [(0, ptr bl 0), (4, ptr b4 0), (6, ptr b6 0), (7, ptr b7 0), (8, ptr b8 0), (9, ptr b9 0), (62, .agg ((addC (mulC (subC x3 z3) (addC x2 z2)) (mulC (addC x3 z3) (subC x2 z2))).map u64V).toArray), (64, .agg ((mulC (addC x3 z3) (subC x2 z2)).map u64V).toArray)]) (hOf [(0, ⟨true, bl, 0, 99, [(x1).map u64V, (x2).map u64V, (z2).map u64V, (x3).map u64V, (z3).map u64V].flatten, 0⟩), (4, ⟨true, b4, 0, 95, (mulC (subC x3 z3) (addC x2 z2)).map u64V, 0⟩), (6, ⟨true, b6, 0, 95, (mulC (addC x2 z2) (addC x2 z2)).map u64V, 0⟩), (7, ⟨true, b7, 0, 95, (mulC (subC x2 z2) (subC x2 z2)).map u64V, 0⟩), (8, ⟨true, b8, 0, 95, (subC (mulC (addC x2 z2) (addC x2 z2)) (mulC (subC x2 z2) (subC x2 z2))).map u64V, 0⟩), (9, ⟨true, b9, 0, 95, (List.replicate 5 0#64).map u64V, 0⟩)]) := by
      refine hGo ?_
      refine At.bStep [3, 7] (by kernel_rfl) (by simp) ?_
      refine ⟨?_, ?_⟩
      ·
       refine At.bSQ (some 63) (Q_loadA (k := 4) rfl rfl Try.underlying95 rfl sz95 LN rfl) ?_
       refine At.bC  5 (some 65) [] (vs := [_, _]) (by kernel_rfl) (by kernel_rfl) rfl en99 rfl V0 (c_sub (a := (mulC (subC x3 z3) (addC x2 z2))) (b := (mulC (addC x3 z3) (subC x2 z2))) LN LN BD BD) ?_
       exact At.into (hGi (hG4_3 b9)) rfl rfl
      ·
       refine At.bS false (by kernel_rfl) (S_alloc (some 10) 10 (zs := (List.replicate 5 0#64).map u64V) rfl ze95 rfl (fun b10 => ?_))
       exact At.into (hGi (hG4_7 b9 b10)) rfl rfl
     have hG4_11 (b10 : Nat) : G 5 #[true, true, true, false, true, false, false, true, false, false] (frOf [(0, ptr bl 0), (4, ptr b4 0), (6, ptr b6 0), (7, ptr b7 0), (8, ptr b8 0), (10, ptr b10 0), (62, .agg ((addC (mulC (subC x3 z3) (addC x2 z2)) (mulC (addC x3 z3) (subC x2 z2))).map u64V).toArray), (64, .agg ((mulC (addC x3 z3) (subC x2 z2)).map u64V).toArray)]) (hOf [(0, ⟨true, bl, 0, 99, [(x1).map u64V, (x2).map u64V, (z2).map u64V, (x3).map u64V, (z3).map u64V].flatten, 0⟩), (4, ⟨true, b4, 0, 95, (mulC (subC x3 z3) (addC x2 z2)).map u64V, 0⟩), (6, ⟨true, b6, 0, 95, (mulC (addC x2 z2) (addC x2 z2)).map u64V, 0⟩), (7, ⟨true, b7, 0, 95, (mulC (subC x2 z2) (subC x2 z2)).map u64V, 0⟩), (8, ⟨true, b8, 0, 95, (subC (mulC (addC x2 z2) (addC x2 z2)) (mulC (subC x2 z2) (subC x2 z2))).map u64V, 0⟩), (10, ⟨true, b10, 0, 95, (List.replicate 5 0#64).map u64V, 0⟩)]) := by
      refine hGo ?_
      refine At.bStep [3, 6] (by kernel_rfl) (by simp) ?_
      refine ⟨?_, ?_⟩
      ·
       refine At.bSQ (some 63) (Q_loadA (k := 4) rfl rfl Try.underlying95 rfl sz95 LN rfl) ?_
       refine At.bC  5 (some 65) [] (vs := [_, _]) (by kernel_rfl) (by kernel_rfl) rfl en99 rfl V0 (c_sub (a := (mulC (subC x3 z3) (addC x2 z2))) (b := (mulC (addC x3 z3) (subC x2 z2))) LN LN BD BD) ?_
       exact At.into (hGi (hG4_4 b10)) rfl rfl
      ·
       refine At.bS false (by kernel_rfl) (S_alloc (some 9) 9 (zs := (List.replicate 5 0#64).map u64V) rfl ze95 rfl (fun b9 => ?_))
       exact At.into (hGi (hG4_7 b9 b10)) rfl rfl
     have hG4_12 (b9 : Nat) (b10 : Nat) : G 5 #[true, true, true, false, false, false, true, true, false, false] (frOf [(0, ptr bl 0), (4, ptr b4 0), (5, ptr b5 0), (6, ptr b6 0), (7, ptr b7 0), (8, ptr b8 0), (9, ptr b9 0), (10, ptr b10 0), (62, .agg ((addC (mulC (subC x3 z3) (addC x2 z2)) (mulC (addC x3 z3) (subC x2 z2))).map u64V).toArray)]) (hOf [(0, ⟨true, bl, 0, 99, [(x1).map u64V, (x2).map u64V, (z2).map u64V, (x3).map u64V, (z3).map u64V].flatten, 0⟩), (4, ⟨true, b4, 0, 95, (mulC (subC x3 z3) (addC x2 z2)).map u64V, 0⟩), (5, ⟨true, b5, 0, 95, (mulC (addC x3 z3) (subC x2 z2)).map u64V, 0⟩), (6, ⟨true, b6, 0, 95, (mulC (addC x2 z2) (addC x2 z2)).map u64V, 0⟩), (7, ⟨true, b7, 0, 95, (mulC (subC x2 z2) (subC x2 z2)).map u64V, 0⟩), (8, ⟨true, b8, 0, 95, (subC (mulC (addC x2 z2) (addC x2 z2)) (mulC (subC x2 z2) (subC x2 z2))).map u64V, 0⟩), (9, ⟨true, b9, 0, 95, (List.replicate 5 0#64).map u64V, 0⟩), (10, ⟨true, b10, 0, 95, (List.replicate 5 0#64).map u64V, 0⟩)]) := by
      refine hGo ?_
      refine At.bStep [3, 4] (by kernel_rfl) (by simp) ?_
      refine ⟨?_, ?_⟩
      ·
       refine At.bSQ (some 63) (Q_loadA (k := 4) rfl rfl Try.underlying95 rfl sz95 LN rfl) ?_
       exact At.into (hGi (hG4_6 b9 b10)) rfl rfl
      ·
       refine At.bSQ (some 64) (Q_loadA (k := 5) rfl rfl Try.underlying95 rfl sz95 LN rfl) ?_
       exact At.into (hGi (hG4_7 b9 b10)) rfl rfl
     have hG4_13  : G 6 #[true, true, true, true, false, false, false, false, false, false] (frOf [(0, ptr bl 0), (5, ptr b5 0), (6, ptr b6 0), (7, ptr b7 0), (8, ptr b8 0), (62, .agg ((addC (mulC (subC x3 z3) (addC x2 z2)) (mulC (addC x3 z3) (subC x2 z2))).map u64V).toArray), (63, .agg ((mulC (subC x3 z3) (addC x2 z2)).map u64V).toArray)]) (hOf [(0, ⟨true, bl, 0, 99, [(x1).map u64V, (x2).map u64V, (z2).map u64V, (x3).map u64V, (z3).map u64V].flatten, 0⟩), (5, ⟨true, b5, 0, 95, (mulC (addC x3 z3) (subC x2 z2)).map u64V, 0⟩), (6, ⟨true, b6, 0, 95, (mulC (addC x2 z2) (addC x2 z2)).map u64V, 0⟩), (7, ⟨true, b7, 0, 95, (mulC (subC x2 z2) (subC x2 z2)).map u64V, 0⟩), (8, ⟨true, b8, 0, 95, (subC (mulC (addC x2 z2) (addC x2 z2)) (mulC (subC x2 z2) (subC x2 z2))).map u64V, 0⟩)]) := by
      refine hGo ?_
      refine At.bStep [4, 6, 7] (by kernel_rfl) (by simp) ?_
      refine ⟨?_, ?_, ?_⟩
      ·
       refine At.bSQ (some 64) (Q_loadA (k := 5) rfl rfl Try.underlying95 rfl sz95 LN rfl) ?_
       refine At.bC  5 (some 65) [] (vs := [_, _]) (by kernel_rfl) (by kernel_rfl) rfl en99 rfl V0 (c_sub (a := (mulC (subC x3 z3) (addC x2 z2))) (b := (mulC (addC x3 z3) (subC x2 z2))) LN LN BD BD) ?_
       exact At.into (hGi (hG4_5 )) rfl rfl
      ·
       refine At.bS false (by kernel_rfl) (S_alloc (some 9) 9 (zs := (List.replicate 5 0#64).map u64V) rfl ze95 rfl (fun b9 => ?_))
       exact At.into (hGi (hG4_8 b9)) rfl rfl
      ·
       refine At.bS false (by kernel_rfl) (S_alloc (some 10) 10 (zs := (List.replicate 5 0#64).map u64V) rfl ze95 rfl (fun b10 => ?_))
       exact At.into (hGi (hG4_9 b10)) rfl rfl
     have hG4_14  : G 6 #[true, true, true, false, true, false, false, false, false, false] (frOf [(0, ptr bl 0), (4, ptr b4 0), (6, ptr b6 0), (7, ptr b7 0), (8, ptr b8 0), (62, .agg ((addC (mulC (subC x3 z3) (addC x2 z2)) (mulC (addC x3 z3) (subC x2 z2))).map u64V).toArray), (64, .agg ((mulC (addC x3 z3) (subC x2 z2)).map u64V).toArray)]) (hOf [(0, ⟨true, bl, 0, 99, [(x1).map u64V, (x2).map u64V, (z2).map u64V, (x3).map u64V, (z3).map u64V].flatten, 0⟩), (4, ⟨true, b4, 0, 95, (mulC (subC x3 z3) (addC x2 z2)).map u64V, 0⟩), (6, ⟨true, b6, 0, 95, (mulC (addC x2 z2) (addC x2 z2)).map u64V, 0⟩), (7, ⟨true, b7, 0, 95, (mulC (subC x2 z2) (subC x2 z2)).map u64V, 0⟩), (8, ⟨true, b8, 0, 95, (subC (mulC (addC x2 z2) (addC x2 z2)) (mulC (subC x2 z2) (subC x2 z2))).map u64V, 0⟩)]) := by
      refine hGo ?_
      refine At.bStep [3, 6, 7] (by kernel_rfl) (by simp) ?_
      refine ⟨?_, ?_, ?_⟩
      ·
       refine At.bSQ (some 63) (Q_loadA (k := 4) rfl rfl Try.underlying95 rfl sz95 LN rfl) ?_
       refine At.bC  5 (some 65) [] (vs := [_, _]) (by kernel_rfl) (by kernel_rfl) rfl en99 rfl V0 (c_sub (a := (mulC (subC x3 z3) (addC x2 z2))) (b := (mulC (addC x3 z3) (subC x2 z2))) LN LN BD BD) ?_
       exact At.into (hGi (hG4_5 )) rfl rfl
      ·
       refine At.bS false (by kernel_rfl) (S_alloc (some 9) 9 (zs := (List.replicate 5 0#64).map u64V) rfl ze95 rfl (fun b9 => ?_))
       exact At.into (hGi (hG4_10 b9)) rfl rfl
      ·
       refine At.bS false (by kernel_rfl) (S_alloc (some 10) 10 (zs := (List.replicate 5 0#64).map u64V) rfl ze95 rfl (fun b10 => ?_))
       exact At.into (hGi (hG4_11 b10)) rfl rfl
     have hG4_15 (b9 : Nat) : G 6 #[true, true, true, false, false, false, true, false, false, false] (frOf [(0, ptr bl 0), (4, ptr b4 0), (5, ptr b5 0), (6, ptr b6 0), (7, ptr b7 0), (8, ptr b8 0), (9, ptr b9 0), (62, .agg ((addC (mulC (subC x3 z3) (addC x2 z2)) (mulC (addC x3 z3) (subC x2 z2))).map u64V).toArray)]) (hOf [(0, ⟨true, bl, 0, 99, [(x1).map u64V, (x2).map u64V, (z2).map u64V, (x3).map u64V, (z3).map u64V].flatten, 0⟩), (4, ⟨true, b4, 0, 95, (mulC (subC x3 z3) (addC x2 z2)).map u64V, 0⟩), (5, ⟨true, b5, 0, 95, (mulC (addC x3 z3) (subC x2 z2)).map u64V, 0⟩), (6, ⟨true, b6, 0, 95, (mulC (addC x2 z2) (addC x2 z2)).map u64V, 0⟩), (7, ⟨true, b7, 0, 95, (mulC (subC x2 z2) (subC x2 z2)).map u64V, 0⟩), (8, ⟨true, b8, 0, 95, (subC (mulC (addC x2 z2) (addC x2 z2)) (mulC (subC x2 z2) (subC x2 z2))).map u64V, 0⟩), (9, ⟨true, b9, 0, 95, (List.replicate 5 0#64).map u64V, 0⟩)]) := by
      refine hGo ?_
      refine At.bStep [3, 4, 7] (by kernel_rfl) (by simp) ?_
      refine ⟨?_, ?_, ?_⟩
      ·
       refine At.bSQ (some 63) (Q_loadA (k := 4) rfl rfl Try.underlying95 rfl sz95 LN rfl) ?_
       exact At.into (hGi (hG4_8 b9)) rfl rfl
      ·
       refine At.bSQ (some 64) (Q_loadA (k := 5) rfl rfl Try.underlying95 rfl sz95 LN rfl) ?_
       exact At.into (hGi (hG4_10 b9)) rfl rfl
      ·
       refine At.bS false (by kernel_rfl) (S_alloc (some 10) 10 (zs := (List.replicate 5 0#64).map u64V) rfl ze95 rfl (fun b10 => ?_))
       exact At.into (hGi (hG4_12 b9 b10)) rfl rfl
     have hG4_16 (b10 : Nat) : G 6 #[true, true, true, false, false, false, false, true, false, false] (frOf [(0, ptr bl 0), (4, ptr b4 0), (5, ptr b5 0), (6, ptr b6 0), (7, ptr b7 0), (8, ptr b8 0), (10, ptr b10 0), (62, .agg ((addC (mulC (subC x3 z3) (addC x2 z2)) (mulC (addC x3 z3) (subC x2 z2))).map u64V).toArray)]) (hOf [(0, ⟨true, bl, 0, 99, [(x1).map u64V, (x2).map u64V, (z2).map u64V, (x3).map u64V, (z3).map u64V].flatten, 0⟩), (4, ⟨true, b4, 0, 95, (mulC (subC x3 z3) (addC x2 z2)).map u64V, 0⟩), (5, ⟨true, b5, 0, 95, (mulC (addC x3 z3) (subC x2 z2)).map u64V, 0⟩), (6, ⟨true, b6, 0, 95, (mulC (addC x2 z2) (addC x2 z2)).map u64V, 0⟩), (7, ⟨true, b7, 0, 95, (mulC (subC x2 z2) (subC x2 z2)).map u64V, 0⟩), (8, ⟨true, b8, 0, 95, (subC (mulC (addC x2 z2) (addC x2 z2)) (mulC (subC x2 z2) (subC x2 z2))).map u64V, 0⟩), (10, ⟨true, b10, 0, 95, (List.replicate 5 0#64).map u64V, 0⟩)]) := by
      refine hGo ?_
      refine At.bStep [3, 4, 6] (by kernel_rfl) (by simp) ?_
      refine ⟨?_, ?_, ?_⟩
      ·
       refine At.bSQ (some 63) (Q_loadA (k := 4) rfl rfl Try.underlying95 rfl sz95 LN rfl) ?_
       exact At.into (hGi (hG4_9 b10)) rfl rfl
      ·
       refine At.bSQ (some 64) (Q_loadA (k := 5) rfl rfl Try.underlying95 rfl sz95 LN rfl) ?_
       exact At.into (hGi (hG4_11 b10)) rfl rfl
      ·
       refine At.bS false (by kernel_rfl) (S_alloc (some 9) 9 (zs := (List.replicate 5 0#64).map u64V) rfl ze95 rfl (fun b9 => ?_))
       exact At.into (hGi (hG4_12 b9 b10)) rfl rfl
     have hG4_17  : G 7 #[true, true, true, false, false, false, false, false, false, false] (frOf [(0, ptr bl 0), (4, ptr b4 0), (5, ptr b5 0), (6, ptr b6 0), (7, ptr b7 0), (8, ptr b8 0), (62, .agg ((addC (mulC (subC x3 z3) (addC x2 z2)) (mulC (addC x3 z3) (subC x2 z2))).map u64V).toArray)]) (hOf [(0, ⟨true, bl, 0, 99, [(x1).map u64V, (x2).map u64V, (z2).map u64V, (x3).map u64V, (z3).map u64V].flatten, 0⟩), (4, ⟨true, b4, 0, 95, (mulC (subC x3 z3) (addC x2 z2)).map u64V, 0⟩), (5, ⟨true, b5, 0, 95, (mulC (addC x3 z3) (subC x2 z2)).map u64V, 0⟩), (6, ⟨true, b6, 0, 95, (mulC (addC x2 z2) (addC x2 z2)).map u64V, 0⟩), (7, ⟨true, b7, 0, 95, (mulC (subC x2 z2) (subC x2 z2)).map u64V, 0⟩), (8, ⟨true, b8, 0, 95, (subC (mulC (addC x2 z2) (addC x2 z2)) (mulC (subC x2 z2) (subC x2 z2))).map u64V, 0⟩)]) := by
      refine hGo ?_
      refine At.bStep [3, 4, 6, 7] (by kernel_rfl) (by simp) ?_
      refine ⟨?_, ?_, ?_, ?_⟩
      ·
       refine At.bSQ (some 63) (Q_loadA (k := 4) rfl rfl Try.underlying95 rfl sz95 LN rfl) ?_
       exact At.into (hGi (hG4_13 )) rfl rfl
      ·
       refine At.bSQ (some 64) (Q_loadA (k := 5) rfl rfl Try.underlying95 rfl sz95 LN rfl) ?_
       exact At.into (hGi (hG4_14 )) rfl rfl
      ·
       refine At.bS false (by kernel_rfl) (S_alloc (some 9) 9 (zs := (List.replicate 5 0#64).map u64V) rfl ze95 rfl (fun b9 => ?_))
       exact At.into (hGi (hG4_15 b9)) rfl rfl
      ·
       refine At.bS false (by kernel_rfl) (S_alloc (some 10) 10 (zs := (List.replicate 5 0#64).map u64V) rfl ze95 rfl (fun b10 => ?_))
       exact At.into (hGi (hG4_16 b10)) rfl rfl
     refine hGo ?_
     refine At.bQ  0 (some 60) (Q_loadA (k := 4) rfl rfl Try.underlying95 rfl sz95 LN rfl) (by kernel_rfl) (by kernel_rfl) ?_
     refine At.bQ  1 (some 61) (Q_loadA (k := 5) rfl rfl Try.underlying95 rfl sz95 LN rfl) (by kernel_rfl) (by kernel_rfl) ?_
     refine At.bC  2 (some 62) [] (vs := [_, _]) (by kernel_rfl) (by kernel_rfl) rfl en98 rfl V0 (c_add (a := (mulC (subC x3 z3) (addC x2 z2))) (b := (mulC (addC x3 z3) (subC x2 z2))) LN LN BD BD) ?_
     exact At.into (hGi (hG4_17 )) rfl rfl
    ·
     rintro fr H ⟨b9, b10, rfl, rfl, -⟩
     refine At.next ?_
     refine At.seq ?_
     have := mulC_len (addC (mulC (subC x3 z3) (addC x2 z2)) (mulC (addC x3 z3) (subC x2 z2))) (addC (mulC (subC x3 z3) (addC x2 z2)) (mulC (addC x3 z3) (subC x2 z2)))
     have := mulC_len (subC (mulC (subC x3 z3) (addC x2 z2)) (mulC (addC x3 z3) (subC x2 z2))) (subC (mulC (subC x3 z3) (addC x2 z2)) (mulC (addC x3 z3) (subC x2 z2)))
     have := mulC_len x1 (mulC (subC (mulC (subC x3 z3) (addC x2 z2)) (mulC (addC x3 z3) (subC x2 z2))) (subC (mulC (subC x3 z3) (addC x2 z2)) (mulC (addC x3 z3) (subC x2 z2))))
     refine At.bBruteG [15, 18] (fun fr H => fr = frOf [(0, ptr bl 0), (6, ptr b6 0), (7, ptr b7 0), (8, ptr b8 0)] ∧ H = hOf [(0, ⟨true, bl, 0, 99, [(x1).map u64V, (x2).map u64V, (z2).map u64V, (mulC (addC (mulC (subC x3 z3) (addC x2 z2)) (mulC (addC x3 z3) (subC x2 z2))) (addC (mulC (subC x3 z3) (addC x2 z2)) (mulC (addC x3 z3) (subC x2 z2)))).map u64V, (mulC x1 (mulC (subC (mulC (subC x3 z3) (addC x2 z2)) (mulC (addC x3 z3) (subC x2 z2))) (subC (mulC (subC x3 z3) (addC x2 z2)) (mulC (addC x3 z3) (subC x2 z2))))).map u64V].flatten, 0⟩), (6, ⟨true, b6, 0, 95, (mulC (addC x2 z2) (addC x2 z2)).map u64V, 0⟩), (7, ⟨true, b7, 0, 95, (mulC (subC x2 z2) (subC x2 z2)).map u64V, 0⟩), (8, ⟨true, b8, 0, 95, (subC (mulC (addC x2 z2) (addC x2 z2)) (mulC (subC x2 z2) (subC x2 z2))).map u64V, 0⟩)] ∧ True) (by kernel_rfl) ?_ ?_
     ·
      intro Kb hKb G hGi hGo
      have hG5_0  : G 0 #[true, true, true, true, true, true, true, true, true, true, true, true, true, true, true, true, true, true, true] (frOf [(0, ptr bl 0), (6, ptr b6 0), (7, ptr b7 0), (8, ptr b8 0)]) (hOf [(0, ⟨true, bl, 0, 99, [(x1).map u64V, (x2).map u64V, (z2).map u64V, (mulC (addC (mulC (subC x3 z3) (addC x2 z2)) (mulC (addC x3 z3) (subC x2 z2))) (addC (mulC (subC x3 z3) (addC x2 z2)) (mulC (addC x3 z3) (subC x2 z2)))).map u64V, (mulC x1 (mulC (subC (mulC (subC x3 z3) (addC x2 z2)) (mulC (addC x3 z3) (subC x2 z2))) (subC (mulC (subC x3 z3) (addC x2 z2)) (mulC (addC x3 z3) (subC x2 z2))))).map u64V].flatten, 0⟩), (6, ⟨true, b6, 0, 95, (mulC (addC x2 z2) (addC x2 z2)).map u64V, 0⟩), (7, ⟨true, b7, 0, 95, (mulC (subC x2 z2) (subC x2 z2)).map u64V, 0⟩), (8, ⟨true, b8, 0, 95, (subC (mulC (addC x2 z2) (addC x2 z2)) (mulC (subC x2 z2) (subC x2 z2))).map u64V, 0⟩)]) := by
       refine hGo ?_
       refine At.bEnd (by kernel_rfl) ?_
       refine At.next ?_
       exact hKb _ _ ⟨rfl, rfl, trivial⟩
      have hG5_1  : G 1 #[true, true, true, true, true, true, true, true, true, true, true, true, true, true, true, true, true, true, false] (frOf [(0, ptr bl 0), (6, ptr b6 0), (7, ptr b7 0), (8, ptr b8 0), (78, .agg ((mulC x1 (mulC (subC (mulC (subC x3 z3) (addC x2 z2)) (mulC (addC x3 z3) (subC x2 z2))) (subC (mulC (subC x3 z3) (addC x2 z2)) (mulC (addC x3 z3) (subC x2 z2))))).map u64V).toArray), (82, ptr bl 20)]) (hOf [(0, ⟨true, bl, 0, 99, [(x1).map u64V, (x2).map u64V, (z2).map u64V, (mulC (addC (mulC (subC x3 z3) (addC x2 z2)) (mulC (addC x3 z3) (subC x2 z2))) (addC (mulC (subC x3 z3) (addC x2 z2)) (mulC (addC x3 z3) (subC x2 z2)))).map u64V, (z3).map u64V].flatten, 0⟩), (6, ⟨true, b6, 0, 95, (mulC (addC x2 z2) (addC x2 z2)).map u64V, 0⟩), (7, ⟨true, b7, 0, 95, (mulC (subC x2 z2) (subC x2 z2)).map u64V, 0⟩), (8, ⟨true, b8, 0, 95, (subC (mulC (addC x2 z2) (addC x2 z2)) (mulC (subC x2 z2) (subC x2 z2))).map u64V, 0⟩)]) := by
       refine hGo ?_
       refine At.bStep [18] (by kernel_rfl) (by simp) ?_
       refine At.bS true (by kernel_rfl) (S_storeN none (k := 0) (vs := (mulC x1 (mulC (subC (mulC (subC x3 z3) (addC x2 z2)) (mulC (addC x3 z3) (subC x2 z2))) (subC (mulC (subC x3 z3) (addC x2 z2)) (mulC (addC x3 z3) (subC x2 z2))))).map u64V) rfl rfl rfl (by rw [sz95]; exact congrArg some LN) rfl (one_map (fun _ => rfl)) NG rfl LN ?_)
       refine At.row 0 (⟨true, bl, 0, 99, [(x1).map u64V, (x2).map u64V, (z2).map u64V, (mulC (addC (mulC (subC x3 z3) (addC x2 z2)) (mulC (addC x3 z3) (subC x2 z2))) (addC (mulC (subC x3 z3) (addC x2 z2)) (mulC (addC x3 z3) (subC x2 z2)))).map u64V, (mulC x1 (mulC (subC (mulC (subC x3 z3) (addC x2 z2)) (mulC (addC x3 z3) (subC x2 z2))) (subC (mulC (subC x3 z3) (addC x2 z2)) (mulC (addC x3 z3) (subC x2 z2))))).map u64V].flatten, 0⟩) rfl (seg_set (i := 4) rfl LN LN) ?_
       exact At.into (hGi (hG5_0 )) rfl rfl
      have hG5_2  : G 4 #[true, true, true, true, true, true, true, true, true, true, true, true, true, true, true, false, false, false, false] (frOf [(0, ptr bl 0), (6, ptr b6 0), (7, ptr b7 0), (8, ptr b8 0), (67, ptr bl 0), (70, .agg ((mulC (addC (mulC (subC x3 z3) (addC x2 z2)) (mulC (addC x3 z3) (subC x2 z2))) (addC (mulC (subC x3 z3) (addC x2 z2)) (mulC (addC x3 z3) (subC x2 z2)))).map u64V).toArray), (78, .agg ((mulC x1 (mulC (subC (mulC (subC x3 z3) (addC x2 z2)) (mulC (addC x3 z3) (subC x2 z2))) (subC (mulC (subC x3 z3) (addC x2 z2)) (mulC (addC x3 z3) (subC x2 z2))))).map u64V).toArray), (80, ptr bl 15)]) (hOf [(0, ⟨true, bl, 0, 99, [(x1).map u64V, (x2).map u64V, (z2).map u64V, (x3).map u64V, (z3).map u64V].flatten, 0⟩), (6, ⟨true, b6, 0, 95, (mulC (addC x2 z2) (addC x2 z2)).map u64V, 0⟩), (7, ⟨true, b7, 0, 95, (mulC (subC x2 z2) (subC x2 z2)).map u64V, 0⟩), (8, ⟨true, b8, 0, 95, (subC (mulC (addC x2 z2) (addC x2 z2)) (mulC (subC x2 z2) (subC x2 z2))).map u64V, 0⟩)]) := by
       refine hGo ?_
       refine At.bStep [15] (by kernel_rfl) (by simp) ?_
       refine At.bS true (by kernel_rfl) (S_storeN none (k := 0) (vs := (mulC (addC (mulC (subC x3 z3) (addC x2 z2)) (mulC (addC x3 z3) (subC x2 z2))) (addC (mulC (subC x3 z3) (addC x2 z2)) (mulC (addC x3 z3) (subC x2 z2)))).map u64V) rfl rfl rfl (by rw [sz95]; exact congrArg some LN) rfl (one_map (fun _ => rfl)) NG rfl LN ?_)
       refine At.row 0 (⟨true, bl, 0, 99, [(x1).map u64V, (x2).map u64V, (z2).map u64V, (mulC (addC (mulC (subC x3 z3) (addC x2 z2)) (mulC (addC x3 z3) (subC x2 z2))) (addC (mulC (subC x3 z3) (addC x2 z2)) (mulC (addC x3 z3) (subC x2 z2)))).map u64V, (z3).map u64V].flatten, 0⟩) rfl (seg_set (i := 3) rfl LN LN) ?_
       refine At.bP  16 (some 81) (P_nilCheck rfl rfl) (by kernel_rfl) (by kernel_rfl) ?_
       refine At.bP  17 (some 82) (P_fieldAddr0 (off := 20) rfl Try.underlying99 rfl sz95 rfl rfl) (by kernel_rfl) (by kernel_rfl) ?_
       exact At.into (hGi (hG5_1 )) rfl rfl
      have hG5_3  : G 9 #[true, true, true, true, true, true, true, true, true, true, false, false, false, false, false, false, false, false, false] (frOf [(0, ptr bl 0), (6, ptr b6 0), (7, ptr b7 0), (8, ptr b8 0), (10, ptr b10 0), (66, ptr bl 0), (67, ptr bl 0), (70, .agg ((mulC (addC (mulC (subC x3 z3) (addC x2 z2)) (mulC (addC x3 z3) (subC x2 z2))) (addC (mulC (subC x3 z3) (addC x2 z2)) (mulC (addC x3 z3) (subC x2 z2)))).map u64V).toArray), (74, .agg ((x1).map u64V).toArray), (75, .agg ((subC (mulC (subC x3 z3) (addC x2 z2)) (mulC (addC x3 z3) (subC x2 z2))).map u64V).toArray)]) (hOf [(0, ⟨true, bl, 0, 99, [(x1).map u64V, (x2).map u64V, (z2).map u64V, (x3).map u64V, (z3).map u64V].flatten, 0⟩), (6, ⟨true, b6, 0, 95, (mulC (addC x2 z2) (addC x2 z2)).map u64V, 0⟩), (7, ⟨true, b7, 0, 95, (mulC (subC x2 z2) (subC x2 z2)).map u64V, 0⟩), (8, ⟨true, b8, 0, 95, (subC (mulC (addC x2 z2) (addC x2 z2)) (mulC (subC x2 z2) (subC x2 z2))).map u64V, 0⟩), (10, ⟨true, b10, 0, 95, (subC (mulC (subC x3 z3) (addC x2 z2)) (mulC (addC x3 z3) (subC x2 z2))).map u64V, 0⟩)]) := by
       refine hGo ?_
       refine At.bStep [10] (by kernel_rfl) (by simp) ?_
       refine At.bSQ (some 76) (Q_loadA (k := 10) rfl rfl Try.underlying95 rfl sz95 LN rfl) ?_
       refine At.bC  11 (some 77) [] (vs := [_, _]) (by kernel_rfl) (by kernel_rfl) rfl en54 rfl V0 (c_mulC (a := (subC (mulC (subC x3 z3) (addC x2 z2)) (mulC (addC x3 z3) (subC x2 z2)))) (b := (subC (mulC (subC x3 z3) (addC x2 z2)) (mulC (addC x3 z3) (subC x2 z2)))) LN LN BD BD) ?_
       refine At.bC  12 (some 78) [] (vs := [_, _]) (by kernel_rfl) (by kernel_rfl) rfl en54 rfl V0 (c_mulC (a := x1) (b := (mulC (subC (mulC (subC x3 z3) (addC x2 z2)) (mulC (addC x3 z3) (subC x2 z2))) (subC (mulC (subC x3 z3) (addC x2 z2)) (mulC (addC x3 z3) (subC x2 z2))))) LN LN BD BD) ?_
       refine At.bP  13 (some 79) (P_nilCheck rfl rfl) (by kernel_rfl) (by kernel_rfl) ?_
       refine At.bP  14 (some 80) (P_fieldAddr0 (off := 15) rfl Try.underlying99 rfl sz95 rfl rfl) (by kernel_rfl) (by kernel_rfl) ?_
       exact At.into (hGi (hG5_2 )) rfl rfl
      have hG5_4  : G 9 #[true, true, true, true, true, true, true, true, true, false, true, false, false, false, false, false, false, false, false] (frOf [(0, ptr bl 0), (6, ptr b6 0), (7, ptr b7 0), (8, ptr b8 0), (10, ptr b10 0), (66, ptr bl 0), (67, ptr bl 0), (70, .agg ((mulC (addC (mulC (subC x3 z3) (addC x2 z2)) (mulC (addC x3 z3) (subC x2 z2))) (addC (mulC (subC x3 z3) (addC x2 z2)) (mulC (addC x3 z3) (subC x2 z2)))).map u64V).toArray), (74, .agg ((x1).map u64V).toArray), (76, .agg ((subC (mulC (subC x3 z3) (addC x2 z2)) (mulC (addC x3 z3) (subC x2 z2))).map u64V).toArray)]) (hOf [(0, ⟨true, bl, 0, 99, [(x1).map u64V, (x2).map u64V, (z2).map u64V, (x3).map u64V, (z3).map u64V].flatten, 0⟩), (6, ⟨true, b6, 0, 95, (mulC (addC x2 z2) (addC x2 z2)).map u64V, 0⟩), (7, ⟨true, b7, 0, 95, (mulC (subC x2 z2) (subC x2 z2)).map u64V, 0⟩), (8, ⟨true, b8, 0, 95, (subC (mulC (addC x2 z2) (addC x2 z2)) (mulC (subC x2 z2) (subC x2 z2))).map u64V, 0⟩), (10, ⟨true, b10, 0, 95, (subC (mulC (subC x3 z3) (addC x2 z2)) (mulC (addC x3 z3) (subC x2 z2))).map u64V, 0⟩)]) := by
       refine hGo ?_
       refine At.bStep [9] (by kernel_rfl) (by simp) ?_
       refine At.bSQ (some 75) (Q_loadA (k := 10) rfl rfl Try.underlying95 rfl sz95 LN rfl) ?_
       refine At.bC  11 (some 77) [] (vs := [_, _]) (by kernel_rfl) (by kernel_rfl) rfl en54 rfl V0 (c_mulC (a := (subC (mulC (subC x3 z3) (addC x2 z2)) (mulC (addC x3 z3) (subC x2 z2)))) (b := (subC (mulC (subC x3 z3) (addC x2 z2)) (mulC (addC x3 z3) (subC x2 z2)))) LN LN BD BD) ?_
       refine At.bC  12 (some 78) [] (vs := [_, _]) (by kernel_rfl) (by kernel_rfl) rfl en54 rfl V0 (c_mulC (a := x1) (b := (mulC (subC (mulC (subC x3 z3) (addC x2 z2)) (mulC (addC x3 z3) (subC x2 z2))) (subC (mulC (subC x3 z3) (addC x2 z2)) (mulC (addC x3 z3) (subC x2 z2))))) LN LN BD BD) ?_
       refine At.bP  13 (some 79) (P_nilCheck rfl rfl) (by kernel_rfl) (by kernel_rfl) ?_
       refine At.bP  14 (some 80) (P_fieldAddr0 (off := 15) rfl Try.underlying99 rfl sz95 rfl rfl) (by kernel_rfl) (by kernel_rfl) ?_
       exact At.into (hGi (hG5_2 )) rfl rfl
      have hG5_5  : G 10 #[true, true, true, true, true, true, true, true, true, false, false, false, false, false, false, false, false, false, false] (frOf [(0, ptr bl 0), (6, ptr b6 0), (7, ptr b7 0), (8, ptr b8 0), (10, ptr b10 0), (66, ptr bl 0), (67, ptr bl 0), (70, .agg ((mulC (addC (mulC (subC x3 z3) (addC x2 z2)) (mulC (addC x3 z3) (subC x2 z2))) (addC (mulC (subC x3 z3) (addC x2 z2)) (mulC (addC x3 z3) (subC x2 z2)))).map u64V).toArray), (74, .agg ((x1).map u64V).toArray)]) (hOf [(0, ⟨true, bl, 0, 99, [(x1).map u64V, (x2).map u64V, (z2).map u64V, (x3).map u64V, (z3).map u64V].flatten, 0⟩), (6, ⟨true, b6, 0, 95, (mulC (addC x2 z2) (addC x2 z2)).map u64V, 0⟩), (7, ⟨true, b7, 0, 95, (mulC (subC x2 z2) (subC x2 z2)).map u64V, 0⟩), (8, ⟨true, b8, 0, 95, (subC (mulC (addC x2 z2) (addC x2 z2)) (mulC (subC x2 z2) (subC x2 z2))).map u64V, 0⟩), (10, ⟨true, b10, 0, 95, (subC (mulC (subC x3 z3) (addC x2 z2)) (mulC (addC x3 z3) (subC x2 z2))).map u64V, 0⟩)]) := by
       refine hGo ?_
       refine At.bStep [9, 10] (by kernel_rfl) (by simp) ?_
       refine ⟨?_, ?_⟩
       ·
        refine At.bSQ (some 75) (Q_loadA (k := 10) rfl rfl Try.underlying95 rfl sz95 LN rfl) ?_
        exact At.into (hGi (hG5_3 )) rfl rfl
       ·
        refine At.bSQ (some 76) (Q_loadA (k := 10) rfl rfl Try.underlying95 rfl sz95 LN rfl) ?_
        exact At.into (hGi (hG5_4 )) rfl rfl
      refine hGo ?_
      refine At.bP  0 (some 66) (P_move rfl rfl) (by kernel_rfl) (by kernel_rfl) ?_
      refine At.bP  1 (some 67) (P_move rfl rfl) (by kernel_rfl) (by kernel_rfl) ?_
      refine At.bQ  2 (some 68) (Q_loadA (k := 9) rfl rfl Try.underlying95 rfl sz95 LN rfl) (by kernel_rfl) (by kernel_rfl) ?_
      refine At.bQ  3 (some 69) (Q_loadA (k := 9) rfl rfl Try.underlying95 rfl sz95 LN rfl) (by kernel_rfl) (by kernel_rfl) ?_
      refine At.bC  4 (some 70) [] (vs := [_, _]) (by kernel_rfl) (by kernel_rfl) rfl en54 rfl V0 (c_mulC (a := (addC (mulC (subC x3 z3) (addC x2 z2)) (mulC (addC x3 z3) (subC x2 z2)))) (b := (addC (mulC (subC x3 z3) (addC x2 z2)) (mulC (addC x3 z3) (subC x2 z2)))) LN LN BD BD) ?_
      refine At.bP  5 (some 71) (P_move rfl rfl) (by kernel_rfl) (by kernel_rfl) ?_
      refine At.bP  6 (some 72) (P_nilCheck rfl rfl) (by kernel_rfl) (by kernel_rfl) ?_
      refine At.bP  7 (some 73) (P_fieldAddr0 (off := 0) rfl Try.underlying99 rfl sz95 rfl rfl) (by kernel_rfl) (by kernel_rfl) ?_
      refine At.bQ  8 (some 74) (Q_loadN (k := 0) (j := 0) (cs := (x1).map u64V) rfl rfl Try.underlying95 rfl sz95 rfl rfl rfl (seg_at (i := 0) rfl LN LN) LN) (by kernel_rfl) (by kernel_rfl) ?_
      exact At.into (hGi (hG5_5 )) rfl rfl
     ·
      rintro fr H ⟨rfl, rfl, -⟩
      refine At.next ?_
      have := mulC_len (mulC (addC x2 z2) (addC x2 z2)) (mulC (subC x2 z2) (subC x2 z2))
      have := mulC_len [121665#64, 0#64, 0#64, 0#64, 0#64] (subC (mulC (addC x2 z2) (addC x2 z2)) (mulC (subC x2 z2) (subC x2 z2)))
      have := addC_len (mulC (addC x2 z2) (addC x2 z2)) (mulC [121665#64, 0#64, 0#64, 0#64, 0#64] (subC (mulC (addC x2 z2) (addC x2 z2)) (mulC (subC x2 z2) (subC x2 z2))))
      have := mulC_len (subC (mulC (addC x2 z2) (addC x2 z2)) (mulC (subC x2 z2) (subC x2 z2))) (addC (mulC (addC x2 z2) (addC x2 z2)) (mulC [121665#64, 0#64, 0#64, 0#64, 0#64] (subC (mulC (addC x2 z2) (addC x2 z2)) (mulC (subC x2 z2) (subC x2 z2)))))
      refine At.bBruteG [14, 17] (fun fr H => fr = frOf [] ∧ H = hOf [(0, ⟨true, bl, 0, 99, [(x1).map u64V, (mulC (mulC (addC x2 z2) (addC x2 z2)) (mulC (subC x2 z2) (subC x2 z2))).map u64V, (mulC (subC (mulC (addC x2 z2) (addC x2 z2)) (mulC (subC x2 z2) (subC x2 z2))) (addC (mulC (addC x2 z2) (addC x2 z2)) (mulC [121665#64, 0#64, 0#64, 0#64, 0#64] (subC (mulC (addC x2 z2) (addC x2 z2)) (mulC (subC x2 z2) (subC x2 z2)))))).map u64V, (mulC (addC (mulC (subC x3 z3) (addC x2 z2)) (mulC (addC x3 z3) (subC x2 z2))) (addC (mulC (subC x3 z3) (addC x2 z2)) (mulC (addC x3 z3) (subC x2 z2)))).map u64V, (mulC x1 (mulC (subC (mulC (subC x3 z3) (addC x2 z2)) (mulC (addC x3 z3) (subC x2 z2))) (subC (mulC (subC x3 z3) (addC x2 z2)) (mulC (addC x3 z3) (subC x2 z2))))).map u64V].flatten, 0⟩)] ∧ True) (by kernel_rfl) ?_ ?_
      ·
       intro Kb hKb G hGi hGo
       have hG6_0  : G 0 #[true, true, true, true, true, true, true, true, true, true, true, true, true, true, true, true, true, true] (frOf []) (hOf [(0, ⟨true, bl, 0, 99, [(x1).map u64V, (mulC (mulC (addC x2 z2) (addC x2 z2)) (mulC (subC x2 z2) (subC x2 z2))).map u64V, (mulC (subC (mulC (addC x2 z2) (addC x2 z2)) (mulC (subC x2 z2) (subC x2 z2))) (addC (mulC (addC x2 z2) (addC x2 z2)) (mulC [121665#64, 0#64, 0#64, 0#64, 0#64] (subC (mulC (addC x2 z2) (addC x2 z2)) (mulC (subC x2 z2) (subC x2 z2)))))).map u64V, (mulC (addC (mulC (subC x3 z3) (addC x2 z2)) (mulC (addC x3 z3) (subC x2 z2))) (addC (mulC (subC x3 z3) (addC x2 z2)) (mulC (addC x3 z3) (subC x2 z2)))).map u64V, (mulC x1 (mulC (subC (mulC (subC x3 z3) (addC x2 z2)) (mulC (addC x3 z3) (subC x2 z2))) (subC (mulC (subC x3 z3) (addC x2 z2)) (mulC (addC x3 z3) (subC x2 z2))))).map u64V].flatten, 0⟩)]) := by
        refine hGo ?_
        refine At.bEnd (by kernel_rfl) ?_
        refine At.next ?_
        exact hKb _ _ ⟨rfl, rfl, trivial⟩
       have hG6_1  : G 1 #[true, true, true, true, true, true, true, true, true, true, true, true, true, true, true, true, true, false] (frOf [(94, .agg ((mulC (subC (mulC (addC x2 z2) (addC x2 z2)) (mulC (subC x2 z2) (subC x2 z2))) (addC (mulC (addC x2 z2) (addC x2 z2)) (mulC [121665#64, 0#64, 0#64, 0#64, 0#64] (subC (mulC (addC x2 z2) (addC x2 z2)) (mulC (subC x2 z2) (subC x2 z2)))))).map u64V).toArray), (98, ptr bl 10)]) (hOf [(0, ⟨true, bl, 0, 99, [(x1).map u64V, (mulC (mulC (addC x2 z2) (addC x2 z2)) (mulC (subC x2 z2) (subC x2 z2))).map u64V, (z2).map u64V, (mulC (addC (mulC (subC x3 z3) (addC x2 z2)) (mulC (addC x3 z3) (subC x2 z2))) (addC (mulC (subC x3 z3) (addC x2 z2)) (mulC (addC x3 z3) (subC x2 z2)))).map u64V, (mulC x1 (mulC (subC (mulC (subC x3 z3) (addC x2 z2)) (mulC (addC x3 z3) (subC x2 z2))) (subC (mulC (subC x3 z3) (addC x2 z2)) (mulC (addC x3 z3) (subC x2 z2))))).map u64V].flatten, 0⟩)]) := by
        refine hGo ?_
        refine At.bStep [17] (by kernel_rfl) (by simp) ?_
        refine At.bS true (by kernel_rfl) (S_storeN none (k := 0) (vs := (mulC (subC (mulC (addC x2 z2) (addC x2 z2)) (mulC (subC x2 z2) (subC x2 z2))) (addC (mulC (addC x2 z2) (addC x2 z2)) (mulC [121665#64, 0#64, 0#64, 0#64, 0#64] (subC (mulC (addC x2 z2) (addC x2 z2)) (mulC (subC x2 z2) (subC x2 z2)))))).map u64V) rfl rfl rfl (by rw [sz95]; exact congrArg some LN) rfl (one_map (fun _ => rfl)) NG rfl LN ?_)
        refine At.row 0 (⟨true, bl, 0, 99, [(x1).map u64V, (mulC (mulC (addC x2 z2) (addC x2 z2)) (mulC (subC x2 z2) (subC x2 z2))).map u64V, (mulC (subC (mulC (addC x2 z2) (addC x2 z2)) (mulC (subC x2 z2) (subC x2 z2))) (addC (mulC (addC x2 z2) (addC x2 z2)) (mulC [121665#64, 0#64, 0#64, 0#64, 0#64] (subC (mulC (addC x2 z2) (addC x2 z2)) (mulC (subC x2 z2) (subC x2 z2)))))).map u64V, (mulC (addC (mulC (subC x3 z3) (addC x2 z2)) (mulC (addC x3 z3) (subC x2 z2))) (addC (mulC (subC x3 z3) (addC x2 z2)) (mulC (addC x3 z3) (subC x2 z2)))).map u64V, (mulC x1 (mulC (subC (mulC (subC x3 z3) (addC x2 z2)) (mulC (addC x3 z3) (subC x2 z2))) (subC (mulC (subC x3 z3) (addC x2 z2)) (mulC (addC x3 z3) (subC x2 z2))))).map u64V].flatten, 0⟩) rfl (seg_set (i := 2) rfl LN LN) ?_
        exact At.into (hGi (hG6_0 )) rfl rfl
       have hG6_2  : G 4 #[true, true, true, true, true, true, true, true, true, true, true, true, true, true, false, false, false, false] (frOf [(84, ptr bl 0), (87, .agg ((mulC (mulC (addC x2 z2) (addC x2 z2)) (mulC (subC x2 z2) (subC x2 z2))).map u64V).toArray), (94, .agg ((mulC (subC (mulC (addC x2 z2) (addC x2 z2)) (mulC (subC x2 z2) (subC x2 z2))) (addC (mulC (addC x2 z2) (addC x2 z2)) (mulC [121665#64, 0#64, 0#64, 0#64, 0#64] (subC (mulC (addC x2 z2) (addC x2 z2)) (mulC (subC x2 z2) (subC x2 z2)))))).map u64V).toArray), (96, ptr bl 5)]) (hOf [(0, ⟨true, bl, 0, 99, [(x1).map u64V, (x2).map u64V, (z2).map u64V, (mulC (addC (mulC (subC x3 z3) (addC x2 z2)) (mulC (addC x3 z3) (subC x2 z2))) (addC (mulC (subC x3 z3) (addC x2 z2)) (mulC (addC x3 z3) (subC x2 z2)))).map u64V, (mulC x1 (mulC (subC (mulC (subC x3 z3) (addC x2 z2)) (mulC (addC x3 z3) (subC x2 z2))) (subC (mulC (subC x3 z3) (addC x2 z2)) (mulC (addC x3 z3) (subC x2 z2))))).map u64V].flatten, 0⟩)]) := by
        refine hGo ?_
        refine At.bStep [14] (by kernel_rfl) (by simp) ?_
        refine At.bS true (by kernel_rfl) (S_storeN none (k := 0) (vs := (mulC (mulC (addC x2 z2) (addC x2 z2)) (mulC (subC x2 z2) (subC x2 z2))).map u64V) rfl rfl rfl (by rw [sz95]; exact congrArg some LN) rfl (one_map (fun _ => rfl)) NG rfl LN ?_)
        refine At.row 0 (⟨true, bl, 0, 99, [(x1).map u64V, (mulC (mulC (addC x2 z2) (addC x2 z2)) (mulC (subC x2 z2) (subC x2 z2))).map u64V, (z2).map u64V, (mulC (addC (mulC (subC x3 z3) (addC x2 z2)) (mulC (addC x3 z3) (subC x2 z2))) (addC (mulC (subC x3 z3) (addC x2 z2)) (mulC (addC x3 z3) (subC x2 z2)))).map u64V, (mulC x1 (mulC (subC (mulC (subC x3 z3) (addC x2 z2)) (mulC (addC x3 z3) (subC x2 z2))) (subC (mulC (subC x3 z3) (addC x2 z2)) (mulC (addC x3 z3) (subC x2 z2))))).map u64V].flatten, 0⟩) rfl (seg_set (i := 1) rfl LN LN) ?_
        refine At.bP  15 (some 97) (P_nilCheck rfl rfl) (by kernel_rfl) (by kernel_rfl) ?_
        refine At.bP  16 (some 98) (P_fieldAddr0 (off := 10) rfl Try.underlying99 rfl sz95 rfl rfl) (by kernel_rfl) (by kernel_rfl) ?_
        exact At.into (hGi (hG6_1 )) rfl rfl
       have hG6_3  : G 8 #[true, true, true, true, true, false, true, true, true, true, true, false, false, false, false, false, false, false] (frOf [(8, ptr b8 0), (83, ptr bl 0), (84, ptr bl 0), (87, .agg ((mulC (mulC (addC x2 z2) (addC x2 z2)) (mulC (subC x2 z2) (subC x2 z2))).map u64V).toArray), (93, .agg ((addC (mulC (addC x2 z2) (addC x2 z2)) (mulC [121665#64, 0#64, 0#64, 0#64, 0#64] (subC (mulC (addC x2 z2) (addC x2 z2)) (mulC (subC x2 z2) (subC x2 z2))))).map u64V).toArray)]) (hOf [(0, ⟨true, bl, 0, 99, [(x1).map u64V, (x2).map u64V, (z2).map u64V, (mulC (addC (mulC (subC x3 z3) (addC x2 z2)) (mulC (addC x3 z3) (subC x2 z2))) (addC (mulC (subC x3 z3) (addC x2 z2)) (mulC (addC x3 z3) (subC x2 z2)))).map u64V, (mulC x1 (mulC (subC (mulC (subC x3 z3) (addC x2 z2)) (mulC (addC x3 z3) (subC x2 z2))) (subC (mulC (subC x3 z3) (addC x2 z2)) (mulC (addC x3 z3) (subC x2 z2))))).map u64V].flatten, 0⟩), (8, ⟨true, b8, 0, 95, (subC (mulC (addC x2 z2) (addC x2 z2)) (mulC (subC x2 z2) (subC x2 z2))).map u64V, 0⟩)]) := by
        refine hGo ?_
        refine At.bStep [5] (by kernel_rfl) (by simp) ?_
        refine At.bSQ (some 88) (Q_loadA (k := 8) rfl rfl Try.underlying95 rfl sz95 LN rfl) ?_
        refine At.bC  11 (some 94) [] (vs := [_, _]) (by kernel_rfl) (by kernel_rfl) rfl en54 rfl V0 (c_mulC (a := (subC (mulC (addC x2 z2) (addC x2 z2)) (mulC (subC x2 z2) (subC x2 z2)))) (b := (addC (mulC (addC x2 z2) (addC x2 z2)) (mulC [121665#64, 0#64, 0#64, 0#64, 0#64] (subC (mulC (addC x2 z2) (addC x2 z2)) (mulC (subC x2 z2) (subC x2 z2)))))) LN LN BD BD) ?_
        refine At.bP  12 (some 95) (P_nilCheck rfl rfl) (by kernel_rfl) (by kernel_rfl) ?_
        refine At.bP  13 (some 96) (P_fieldAddr0 (off := 5) rfl Try.underlying99 rfl sz95 rfl rfl) (by kernel_rfl) (by kernel_rfl) ?_
        exact At.into (hGi (hG6_2 )) rfl rfl
       have hG6_4  : G 9 #[true, true, true, true, true, true, false, true, true, true, false, false, false, false, false, false, false, false] (frOf [(6, ptr b6 0), (83, ptr bl 0), (84, ptr bl 0), (87, .agg ((mulC (mulC (addC x2 z2) (addC x2 z2)) (mulC (subC x2 z2) (subC x2 z2))).map u64V).toArray), (88, .agg ((subC (mulC (addC x2 z2) (addC x2 z2)) (mulC (subC x2 z2) (subC x2 z2))).map u64V).toArray), (92, .agg ((mulC [121665#64, 0#64, 0#64, 0#64, 0#64] (subC (mulC (addC x2 z2) (addC x2 z2)) (mulC (subC x2 z2) (subC x2 z2)))).map u64V).toArray)]) (hOf [(0, ⟨true, bl, 0, 99, [(x1).map u64V, (x2).map u64V, (z2).map u64V, (mulC (addC (mulC (subC x3 z3) (addC x2 z2)) (mulC (addC x3 z3) (subC x2 z2))) (addC (mulC (subC x3 z3) (addC x2 z2)) (mulC (addC x3 z3) (subC x2 z2)))).map u64V, (mulC x1 (mulC (subC (mulC (subC x3 z3) (addC x2 z2)) (mulC (addC x3 z3) (subC x2 z2))) (subC (mulC (subC x3 z3) (addC x2 z2)) (mulC (addC x3 z3) (subC x2 z2))))).map u64V].flatten, 0⟩), (6, ⟨true, b6, 0, 95, (mulC (addC x2 z2) (addC x2 z2)).map u64V, 0⟩)]) := by
        refine hGo ?_
        refine At.bStep [6] (by kernel_rfl) (by simp) ?_
        refine At.bSQ (some 89) (Q_loadA (k := 6) rfl rfl Try.underlying95 rfl sz95 LN rfl) ?_
        refine At.bC  10 (some 93) [] (vs := [_, _]) (by kernel_rfl) (by kernel_rfl) rfl en98 rfl V0 (c_add (a := (mulC (addC x2 z2) (addC x2 z2))) (b := (mulC [121665#64, 0#64, 0#64, 0#64, 0#64] (subC (mulC (addC x2 z2) (addC x2 z2)) (mulC (subC x2 z2) (subC x2 z2))))) LN LN BD BD) ?_
        refine At.bC  11 (some 94) [] (vs := [_, _]) (by kernel_rfl) (by kernel_rfl) rfl en54 rfl V0 (c_mulC (a := (subC (mulC (addC x2 z2) (addC x2 z2)) (mulC (subC x2 z2) (subC x2 z2)))) (b := (addC (mulC (addC x2 z2) (addC x2 z2)) (mulC [121665#64, 0#64, 0#64, 0#64, 0#64] (subC (mulC (addC x2 z2) (addC x2 z2)) (mulC (subC x2 z2) (subC x2 z2)))))) LN LN BD BD) ?_
        refine At.bP  12 (some 95) (P_nilCheck rfl rfl) (by kernel_rfl) (by kernel_rfl) ?_
        refine At.bP  13 (some 96) (P_fieldAddr0 (off := 5) rfl Try.underlying99 rfl sz95 rfl rfl) (by kernel_rfl) (by kernel_rfl) ?_
        exact At.into (hGi (hG6_2 )) rfl rfl
       have hG6_5  : G 10 #[true, true, true, true, true, true, true, true, false, false, false, false, false, false, false, false, false, false] (frOf [(8, ptr b8 0), (83, ptr bl 0), (84, ptr bl 0), (87, .agg ((mulC (mulC (addC x2 z2) (addC x2 z2)) (mulC (subC x2 z2) (subC x2 z2))).map u64V).toArray), (88, .agg ((subC (mulC (addC x2 z2) (addC x2 z2)) (mulC (subC x2 z2) (subC x2 z2))).map u64V).toArray), (89, .agg ((mulC (addC x2 z2) (addC x2 z2)).map u64V).toArray), (90, .agg (([121665#64, 0#64, 0#64, 0#64, 0#64]).map u64V).toArray)]) (hOf [(0, ⟨true, bl, 0, 99, [(x1).map u64V, (x2).map u64V, (z2).map u64V, (mulC (addC (mulC (subC x3 z3) (addC x2 z2)) (mulC (addC x3 z3) (subC x2 z2))) (addC (mulC (subC x3 z3) (addC x2 z2)) (mulC (addC x3 z3) (subC x2 z2)))).map u64V, (mulC x1 (mulC (subC (mulC (subC x3 z3) (addC x2 z2)) (mulC (addC x3 z3) (subC x2 z2))) (subC (mulC (subC x3 z3) (addC x2 z2)) (mulC (addC x3 z3) (subC x2 z2))))).map u64V].flatten, 0⟩), (8, ⟨true, b8, 0, 95, (subC (mulC (addC x2 z2) (addC x2 z2)) (mulC (subC x2 z2) (subC x2 z2))).map u64V, 0⟩)]) := by
        refine hGo ?_
        refine At.bStep [8] (by kernel_rfl) (by simp) ?_
        refine At.bSQ (some 91) (Q_loadA (k := 8) rfl rfl Try.underlying95 rfl sz95 LN rfl) ?_
        refine At.bC  9 (some 92) [] (vs := [_, _]) (by kernel_rfl) (by kernel_rfl) rfl en54 rfl V0 (c_mulC (a := [121665#64, 0#64, 0#64, 0#64, 0#64]) (b := (subC (mulC (addC x2 z2) (addC x2 z2)) (mulC (subC x2 z2) (subC x2 z2)))) LN LN BD BD) ?_
        refine At.bC  10 (some 93) [] (vs := [_, _]) (by kernel_rfl) (by kernel_rfl) rfl en98 rfl V0 (c_add (a := (mulC (addC x2 z2) (addC x2 z2))) (b := (mulC [121665#64, 0#64, 0#64, 0#64, 0#64] (subC (mulC (addC x2 z2) (addC x2 z2)) (mulC (subC x2 z2) (subC x2 z2))))) LN LN BD BD) ?_
        refine At.bC  11 (some 94) [] (vs := [_, _]) (by kernel_rfl) (by kernel_rfl) rfl en54 rfl V0 (c_mulC (a := (subC (mulC (addC x2 z2) (addC x2 z2)) (mulC (subC x2 z2) (subC x2 z2)))) (b := (addC (mulC (addC x2 z2) (addC x2 z2)) (mulC [121665#64, 0#64, 0#64, 0#64, 0#64] (subC (mulC (addC x2 z2) (addC x2 z2)) (mulC (subC x2 z2) (subC x2 z2)))))) LN LN BD BD) ?_
        refine At.bP  12 (some 95) (P_nilCheck rfl rfl) (by kernel_rfl) (by kernel_rfl) ?_
        refine At.bP  13 (some 96) (P_fieldAddr0 (off := 5) rfl Try.underlying99 rfl sz95 rfl rfl) (by kernel_rfl) (by kernel_rfl) ?_
        exact At.into (hGi (hG6_2 )) rfl rfl
       have hG6_6  : G 10 #[true, true, true, true, true, false, false, true, true, true, false, false, false, false, false, false, false, false] (frOf [(6, ptr b6 0), (8, ptr b8 0), (83, ptr bl 0), (84, ptr bl 0), (87, .agg ((mulC (mulC (addC x2 z2) (addC x2 z2)) (mulC (subC x2 z2) (subC x2 z2))).map u64V).toArray), (92, .agg ((mulC [121665#64, 0#64, 0#64, 0#64, 0#64] (subC (mulC (addC x2 z2) (addC x2 z2)) (mulC (subC x2 z2) (subC x2 z2)))).map u64V).toArray)]) (hOf [(0, ⟨true, bl, 0, 99, [(x1).map u64V, (x2).map u64V, (z2).map u64V, (mulC (addC (mulC (subC x3 z3) (addC x2 z2)) (mulC (addC x3 z3) (subC x2 z2))) (addC (mulC (subC x3 z3) (addC x2 z2)) (mulC (addC x3 z3) (subC x2 z2)))).map u64V, (mulC x1 (mulC (subC (mulC (subC x3 z3) (addC x2 z2)) (mulC (addC x3 z3) (subC x2 z2))) (subC (mulC (subC x3 z3) (addC x2 z2)) (mulC (addC x3 z3) (subC x2 z2))))).map u64V].flatten, 0⟩), (6, ⟨true, b6, 0, 95, (mulC (addC x2 z2) (addC x2 z2)).map u64V, 0⟩), (8, ⟨true, b8, 0, 95, (subC (mulC (addC x2 z2) (addC x2 z2)) (mulC (subC x2 z2) (subC x2 z2))).map u64V, 0⟩)]) := by
        refine hGo ?_
        refine At.bStep [5, 6] (by kernel_rfl) (by simp) ?_
        refine ⟨?_, ?_⟩
        ·
         refine At.bSQ (some 88) (Q_loadA (k := 8) rfl rfl Try.underlying95 rfl sz95 LN rfl) ?_
         exact At.into (hGi (hG6_4 )) rfl rfl
        ·
         refine At.bSQ (some 89) (Q_loadA (k := 6) rfl rfl Try.underlying95 rfl sz95 LN rfl) ?_
         refine At.bC  10 (some 93) [] (vs := [_, _]) (by kernel_rfl) (by kernel_rfl) rfl en98 rfl V0 (c_add (a := (mulC (addC x2 z2) (addC x2 z2))) (b := (mulC [121665#64, 0#64, 0#64, 0#64, 0#64] (subC (mulC (addC x2 z2) (addC x2 z2)) (mulC (subC x2 z2) (subC x2 z2))))) LN LN BD BD) ?_
         exact At.into (hGi (hG6_3 )) rfl rfl
       have hG6_7  : G 11 #[true, true, true, true, true, true, false, true, false, false, false, false, false, false, false, false, false, false] (frOf [(6, ptr b6 0), (8, ptr b8 0), (83, ptr bl 0), (84, ptr bl 0), (87, .agg ((mulC (mulC (addC x2 z2) (addC x2 z2)) (mulC (subC x2 z2) (subC x2 z2))).map u64V).toArray), (88, .agg ((subC (mulC (addC x2 z2) (addC x2 z2)) (mulC (subC x2 z2) (subC x2 z2))).map u64V).toArray), (90, .agg (([121665#64, 0#64, 0#64, 0#64, 0#64]).map u64V).toArray)]) (hOf [(0, ⟨true, bl, 0, 99, [(x1).map u64V, (x2).map u64V, (z2).map u64V, (mulC (addC (mulC (subC x3 z3) (addC x2 z2)) (mulC (addC x3 z3) (subC x2 z2))) (addC (mulC (subC x3 z3) (addC x2 z2)) (mulC (addC x3 z3) (subC x2 z2)))).map u64V, (mulC x1 (mulC (subC (mulC (subC x3 z3) (addC x2 z2)) (mulC (addC x3 z3) (subC x2 z2))) (subC (mulC (subC x3 z3) (addC x2 z2)) (mulC (addC x3 z3) (subC x2 z2))))).map u64V].flatten, 0⟩), (6, ⟨true, b6, 0, 95, (mulC (addC x2 z2) (addC x2 z2)).map u64V, 0⟩), (8, ⟨true, b8, 0, 95, (subC (mulC (addC x2 z2) (addC x2 z2)) (mulC (subC x2 z2) (subC x2 z2))).map u64V, 0⟩)]) := by
        refine hGo ?_
        refine At.bStep [6, 8] (by kernel_rfl) (by simp) ?_
        refine ⟨?_, ?_⟩
        ·
         refine At.bSQ (some 89) (Q_loadA (k := 6) rfl rfl Try.underlying95 rfl sz95 LN rfl) ?_
         exact At.into (hGi (hG6_5 )) rfl rfl
        ·
         refine At.bSQ (some 91) (Q_loadA (k := 8) rfl rfl Try.underlying95 rfl sz95 LN rfl) ?_
         refine At.bC  9 (some 92) [] (vs := [_, _]) (by kernel_rfl) (by kernel_rfl) rfl en54 rfl V0 (c_mulC (a := [121665#64, 0#64, 0#64, 0#64, 0#64]) (b := (subC (mulC (addC x2 z2) (addC x2 z2)) (mulC (subC x2 z2) (subC x2 z2)))) LN LN BD BD) ?_
         exact At.into (hGi (hG6_4 )) rfl rfl
       have hG6_8  : G 11 #[true, true, true, true, true, false, true, true, false, false, false, false, false, false, false, false, false, false] (frOf [(8, ptr b8 0), (83, ptr bl 0), (84, ptr bl 0), (87, .agg ((mulC (mulC (addC x2 z2) (addC x2 z2)) (mulC (subC x2 z2) (subC x2 z2))).map u64V).toArray), (89, .agg ((mulC (addC x2 z2) (addC x2 z2)).map u64V).toArray), (90, .agg (([121665#64, 0#64, 0#64, 0#64, 0#64]).map u64V).toArray)]) (hOf [(0, ⟨true, bl, 0, 99, [(x1).map u64V, (x2).map u64V, (z2).map u64V, (mulC (addC (mulC (subC x3 z3) (addC x2 z2)) (mulC (addC x3 z3) (subC x2 z2))) (addC (mulC (subC x3 z3) (addC x2 z2)) (mulC (addC x3 z3) (subC x2 z2)))).map u64V, (mulC x1 (mulC (subC (mulC (subC x3 z3) (addC x2 z2)) (mulC (addC x3 z3) (subC x2 z2))) (subC (mulC (subC x3 z3) (addC x2 z2)) (mulC (addC x3 z3) (subC x2 z2))))).map u64V].flatten, 0⟩), (8, ⟨true, b8, 0, 95, (subC (mulC (addC x2 z2) (addC x2 z2)) (mulC (subC x2 z2) (subC x2 z2))).map u64V, 0⟩)]) := by
        refine hGo ?_
        refine At.bStep [5, 8] (by kernel_rfl) (by simp) ?_
        refine ⟨?_, ?_⟩
        ·
         refine At.bSQ (some 88) (Q_loadA (k := 8) rfl rfl Try.underlying95 rfl sz95 LN rfl) ?_
         exact At.into (hGi (hG6_5 )) rfl rfl
        ·
         refine At.bSQ (some 91) (Q_loadA (k := 8) rfl rfl Try.underlying95 rfl sz95 LN rfl) ?_
         refine At.bC  9 (some 92) [] (vs := [_, _]) (by kernel_rfl) (by kernel_rfl) rfl en54 rfl V0 (c_mulC (a := [121665#64, 0#64, 0#64, 0#64, 0#64]) (b := (subC (mulC (addC x2 z2) (addC x2 z2)) (mulC (subC x2 z2) (subC x2 z2)))) LN LN BD BD) ?_
         refine At.bC  10 (some 93) [] (vs := [_, _]) (by kernel_rfl) (by kernel_rfl) rfl en98 rfl V0 (c_add (a := (mulC (addC x2 z2) (addC x2 z2))) (b := (mulC [121665#64, 0#64, 0#64, 0#64, 0#64] (subC (mulC (addC x2 z2) (addC x2 z2)) (mulC (subC x2 z2) (subC x2 z2))))) LN LN BD BD) ?_
         exact At.into (hGi (hG6_3 )) rfl rfl
       have hG6_9  : G 12 #[true, true, true, true, true, false, false, true, false, false, false, false, false, false, false, false, false, false] (frOf [(6, ptr b6 0), (8, ptr b8 0), (83, ptr bl 0), (84, ptr bl 0), (87, .agg ((mulC (mulC (addC x2 z2) (addC x2 z2)) (mulC (subC x2 z2) (subC x2 z2))).map u64V).toArray), (90, .agg (([121665#64, 0#64, 0#64, 0#64, 0#64]).map u64V).toArray)]) (hOf [(0, ⟨true, bl, 0, 99, [(x1).map u64V, (x2).map u64V, (z2).map u64V, (mulC (addC (mulC (subC x3 z3) (addC x2 z2)) (mulC (addC x3 z3) (subC x2 z2))) (addC (mulC (subC x3 z3) (addC x2 z2)) (mulC (addC x3 z3) (subC x2 z2)))).map u64V, (mulC x1 (mulC (subC (mulC (subC x3 z3) (addC x2 z2)) (mulC (addC x3 z3) (subC x2 z2))) (subC (mulC (subC x3 z3) (addC x2 z2)) (mulC (addC x3 z3) (subC x2 z2))))).map u64V].flatten, 0⟩), (6, ⟨true, b6, 0, 95, (mulC (addC x2 z2) (addC x2 z2)).map u64V, 0⟩), (8, ⟨true, b8, 0, 95, (subC (mulC (addC x2 z2) (addC x2 z2)) (mulC (subC x2 z2) (subC x2 z2))).map u64V, 0⟩)]) := by
        refine hGo ?_
        refine At.bStep [5, 6, 8] (by kernel_rfl) (by simp) ?_
        refine ⟨?_, ?_, ?_⟩
        ·
         refine At.bSQ (some 88) (Q_loadA (k := 8) rfl rfl Try.underlying95 rfl sz95 LN rfl) ?_
         exact At.into (hGi (hG6_7 )) rfl rfl
        ·
         refine At.bSQ (some 89) (Q_loadA (k := 6) rfl rfl Try.underlying95 rfl sz95 LN rfl) ?_
         exact At.into (hGi (hG6_8 )) rfl rfl
        ·
         refine At.bSQ (some 91) (Q_loadA (k := 8) rfl rfl Try.underlying95 rfl sz95 LN rfl) ?_
         refine At.bC  9 (some 92) [] (vs := [_, _]) (by kernel_rfl) (by kernel_rfl) rfl en54 rfl V0 (c_mulC (a := [121665#64, 0#64, 0#64, 0#64, 0#64]) (b := (subC (mulC (addC x2 z2) (addC x2 z2)) (mulC (subC x2 z2) (subC x2 z2)))) LN LN BD BD) ?_
         exact At.into (hGi (hG6_6 )) rfl rfl
       refine hGo ?_
       refine At.bP  0 (some 83) (P_move rfl rfl) (by kernel_rfl) (by kernel_rfl) ?_
       refine At.bP  1 (some 84) (P_move rfl rfl) (by kernel_rfl) (by kernel_rfl) ?_
       refine At.bQ  2 (some 85) (Q_loadA (k := 6) rfl rfl Try.underlying95 rfl sz95 LN rfl) (by kernel_rfl) (by kernel_rfl) ?_
       refine At.bQ  3 (some 86) (Q_loadA (k := 7) rfl rfl Try.underlying95 rfl sz95 LN rfl) (by kernel_rfl) (by kernel_rfl) ?_
       refine At.bC  4 (some 87) [] (vs := [_, _]) (by kernel_rfl) (by kernel_rfl) rfl en54 rfl V0 (c_mulC (a := (mulC (addC x2 z2) (addC x2 z2))) (b := (mulC (subC x2 z2) (subC x2 z2))) LN LN BD BD) ?_
       refine At.bP  7 (some 90) (P_build_arr (cs := (([121665#64, 0#64, 0#64, 0#64, 0#64]).map u64V).toArray) (parts := _) (vs := [(0, _)]) rfl Try.underlying95 sz66 ze95 rfl rfl) (by kernel_rfl) (by kernel_rfl) ?_
       exact At.into (hGi (hG6_9 )) rfl rfl
      ·
       rintro fr H ⟨rfl, rfl, -⟩
       have hr0 : [(x1).map u64V, (mulC (mulC (addC x2 z2) (addC x2 z2)) (mulC (subC x2 z2) (subC x2 z2))).map u64V, (mulC (subC (mulC (addC x2 z2) (addC x2 z2)) (mulC (subC x2 z2) (subC x2 z2))) (addC (mulC (addC x2 z2) (addC x2 z2)) (mulC [121665#64, 0#64, 0#64, 0#64, 0#64] (subC (mulC (addC x2 z2) (addC x2 z2)) (mulC (subC x2 z2) (subC x2 z2)))))).map u64V, (mulC (addC (mulC (subC x3 z3) (addC x2 z2)) (mulC (addC x3 z3) (subC x2 z2))) (addC (mulC (subC x3 z3) (addC x2 z2)) (mulC (addC x3 z3) (subC x2 z2)))).map u64V, (mulC x1 (mulC (subC (mulC (subC x3 z3) (addC x2 z2)) (mulC (addC x3 z3) (subC x2 z2))) (subC (mulC (subC x3 z3) (addC x2 z2)) (mulC (addC x3 z3) (subC x2 z2))))).map u64V].flatten = [(x1).map u64V, ((stepG addC subC mulC num5 x1 ⟨x2, z2, x3, z3⟩).x2).map u64V, ((stepG addC subC mulC num5 x1 ⟨x2, z2, x3, z3⟩).z2).map u64V, ((stepG addC subC mulC num5 x1 ⟨x2, z2, x3, z3⟩).x3).map u64V, ((stepG addC subC mulC num5 x1 ⟨x2, z2, x3, z3⟩).z3).map u64V].flatten := rfl
       refine At.give (.inr rfl) [0] (rows' := [_]) (vs := []) rfl trivial rfl (by simp) (by simp) ⟨(by first | (rw [hr0]; try rfl; done) | (rw [← hr0]; try rfl; done) | (simp only [hr0]; try rfl; done) | (simp only [← hr0]; try rfl; done) | rfl), (by first | (rw [hr0]; try rfl; done) | (rw [← hr0]; try rfl; done) | (simp only [hr0]; try rfl; done) | (simp only [← hr0]; try rfl; done) | rfl)⟩



end Go.Proofs.Ytcjfkmhijfcciaa

