import Derived.Test.YtnhjmapapbhhpaaCV7
namespace Go.Proofs.Ytnhjmapapbhhpaa
set_option maxRecDepth 20000
set_option linter.unusedVariables false
set_option linter.unusedSimpArgs false
open Go.SE Go.RowKit
theorem BR {p : Prop} (h : p := by repeat (first | assumption | exact bz_num | exact bz_one | exact bz_zero | apply bz_mul | apply bz_add | apply bz_sub | apply bz_up)) : p := h

attribute [local irreducible] zT zR foldZ fI cR cSt mulR unR0 unI unR zst zgs valZ zwI addR subR invG

set_option maxHeartbeats 2000000 in
theorem r_carry {a : List Int} (ha : a.length = 16) (hb : BZ 1152921504606846976 a) :
    Con Try.prog 29 [.agg ((a).map iV).toArray] [] (fun v rs => v = .agg ((cR (valZ a)).map iV).toArray ∧ rs = []) := by
  refine Con.enter Try.func29 Try.ntmps29 (Nat.le_of_ble_eq_true rfl) rfl fun w => ?_
  refine At.seq ?_
  refine At.region ?_
  refine At.s (S_box (some 1) 1 (zs := (a).map iV) rfl rfl rfl (fun b1 => ?_))
  refine At.s (S_alloc (some 2) 2 (zs := (List.replicate 16 (0 : Int)).map iV) rfl ze44 rfl (fun b2 => ?_))
  refine At.nil ?_
  refine At.next ?_
  refine At.seq ?_
  refine At.seq ?_
  refine At.region ?_
  refine At.p (some 3) (P_assign rfl rfl) ?_
  refine At.nil ?_
  refine At.next ?_
  refine At.block ?_
  refine At.loopx (I := fun m fr H => ∃ (i : Nat), m = 16 - i ∧ fr = frOf [(0, .agg ((a).map iV).toArray), (1, ptr b1 0), (2, ptr b2 0), (3, iV (i : Int))] ∧ H = hOf [(1, ⟨true, b1, 0, 44, ((cSt a i)).map iV, 0⟩), (2, ⟨true, b2, 0, 44, (List.replicate 16 (0 : Int)).map iV, 0⟩)] ∧ (i ≤ 16)) ?_ ?_
  · intro Kc0 hKc0
    refine At.to [(0, _), (1, _), (2, _), (3, _)] [(1, ⟨true, b1, 0, 44, ((cSt a 0)).map iV, 0⟩), (2, _)] (AllL.cons_ (rfl) (AllL.cons_ (rfl) (AllL.cons_ (rfl) (AllL.cons_ (rfl) trivial)))) (AllL.cons_ ((by rw [cSt_zero ha]; rfl)) (AllL.cons_ (rfl) trivial)) ?_
    exact hKc0 _ _ _ ⟨0, rfl, rfl, rfl, (by omega)⟩
  · rintro m fr H ⟨i, rfl, rfl, rfl, hi⟩ Kc0 hKc0
    have hcl := cSt_len ha hi
    have hcy := zcy_bd hb (by decide) i (by omega)
    have hgx := hb.get (by decide) i
    refine At.seq ?_
    refine At.seq ?_
    refine At.region ?_
    refine At.p (some 5) (P_move rfl rfl) ?_
    refine At.p (some 6) (P_cmp rfl rfl rfl rfl rfl rfl) ?_
    refine At.nil ?_
    refine At.next ?_
    refine At.cond rfl (fun h6 => ?_) (fun h6 => ?_)
    · -- cond 6 t
      have e6 : (i : Int) < 16 := of_decide_eq_true h6
      refine At.skip ?_
      refine At.next ?_
      refine At.seq ?_
      refine At.block ?_
      refine At.seq ?_
      refine At.region ?_
      refine At.p (some 9) (P_move rfl rfl) ?_
      refine At.p (some 10) (P_move rfl rfl) ?_
      refine At.p (some 11) (P_indexAddr_arr1 (j := i) rfl Try.underlying44 sz2 rfl rfl RO OG) ?_
      refine At.q (some 12) (Q_loadM (k := 1) (f := iV) (l := (cSt a i)) ((0 : Int)) rfl rfl Try.underlying2 rfl rfl OG) ?_
      have q12 : (((cSt a i).getD i 0) : Int) = (a.getD i 0 + zcy a i) := cSt_at (by omega)
      simp only [q12]
      refine At.p (some 13) (P_add_i rfl rfl rfl (by omega)) ?_
      refine At.p (some 14) (P_indexAddr_arr1 (j := i) rfl Try.underlying44 sz2 rfl rfl RO OG) ?_
      refine At.s (S_storeM none (f := iV) (l := (cSt a i)) (u := ((a.getD i 0 + zcy a i) + 65536)) (k := 1) rfl rfl rfl sz2 rfl rfl rfl OG ?_)
      refine At.nil ?_
      refine At.next ?_
      refine At.seq ?_
      refine At.region ?_
      refine At.p (some 15) (P_move rfl rfl) ?_
      refine At.p (some 16) (P_indexAddr_arr1 (j := i) rfl Try.underlying44 sz2 rfl rfl RO OG) ?_
      refine At.q (some 17) (Q_loadM (k := 1) (f := iV) (l := ((cSt a i).set i ((a.getD i 0 + zcy a i) + 65536))) ((0 : Int)) rfl rfl Try.underlying2 rfl rfl OG) ?_
      have q17 : ((((cSt a i).set i ((a.getD i 0 + zcy a i) + 65536)).getD i 0) : Int) = ((a.getD i 0 + zcy a i) + 65536) := cSt_at1 ha (by omega)
      simp only [q17]
      refine At.p (some 18) (P_shr_c (c := 65536) rfl rfl rfl (by decide) (by decide) (by rfl)) ?_
      have q18 : ((((a.getD i 0 + zcy a i) + 65536) / 65536) : Int) = ((a.getD i 0 + zcy a i) / 65536 + 1) := (by omega)
      simp only [q18]
      refine At.p (some 4) (P_assign rfl rfl) ?_
      refine At.nil ?_
      refine At.next ?_
      refine At.seq ?_
      refine At.region ?_
      refine At.p (some 19) (P_move rfl rfl) ?_
      refine At.p (some 20) (P_move rfl rfl) ?_
      refine At.p (some 21) (P_indexAddr_arr1 (j := i) rfl Try.underlying44 sz2 rfl rfl RO OG) ?_
      refine At.q (some 22) (Q_loadM (k := 1) (f := iV) (l := ((cSt a i).set i ((a.getD i 0 + zcy a i) + 65536))) ((0 : Int)) rfl rfl Try.underlying2 rfl rfl OG) ?_
      have q22 : ((((cSt a i).set i ((a.getD i 0 + zcy a i) + 65536)).getD i 0) : Int) = ((a.getD i 0 + zcy a i) + 65536) := cSt_at1 ha (by omega)
      simp only [q22]
      refine At.p (some 23) (P_move rfl rfl) ?_
      refine At.p (some 24) (P_shl_c (c := 65536) rfl rfl rfl (by decide) (by decide) (by rfl) (by omega)) ?_
      refine At.p (some 25) (P_sub_i rfl rfl rfl (by omega)) ?_
      have q25 : ((((a.getD i 0 + zcy a i) + 65536) - (((a.getD i 0 + zcy a i) / 65536 + 1) * 65536)) : Int) = ((a.getD i 0 + zcy a i) % 65536) := (by omega)
      simp only [q25]
      refine At.p (some 26) (P_indexAddr_arr1 (j := i) rfl Try.underlying44 sz2 rfl rfl RO OG) ?_
      refine At.s (S_storeM none (f := iV) (l := ((cSt a i).set i ((a.getD i 0 + zcy a i) + 65536))) (u := ((a.getD i 0 + zcy a i) % 65536)) (k := 1) rfl rfl rfl sz2 rfl rfl rfl OG ?_)
      refine At.nil ?_
      refine At.next ?_
      refine At.seq ?_
      refine At.region ?_
      refine At.p (some 27) (P_move rfl rfl) ?_
      refine At.p (some 28) (P_cmp rfl rfl rfl rfl rfl rfl) ?_
      refine At.nil ?_
      refine At.next ?_
      refine At.cond rfl (fun h28 => ?_) (fun h28 => ?_)
      · -- cond 28 t
        have e28 : (i : Int) < 15 := of_decide_eq_true h28
        have hgy := hb.get (by decide) (i + 1)
        refine At.region ?_
        refine At.p (some 29) (P_move rfl rfl) ?_
        refine At.p (some 30) (P_add_i rfl rfl rfl (by omega)) ?_
        refine At.p (some 31) (P_move rfl rfl) ?_
        refine At.p (some 32) (P_add_i rfl rfl rfl (by omega)) ?_
        refine At.p (some 33) (P_indexAddr_arr1 (j := (i + 1)) rfl Try.underlying44 sz2 rfl rfl RO OG) ?_
        refine At.q (some 34) (Q_loadM (k := 1) (f := iV) (l := (((cSt a i).set i ((a.getD i 0 + zcy a i) + 65536)).set i ((a.getD i 0 + zcy a i) % 65536))) ((0 : Int)) rfl rfl Try.underlying2 rfl rfl OG) ?_
        have q34 : (((((cSt a i).set i ((a.getD i 0 + zcy a i) + 65536)).set i ((a.getD i 0 + zcy a i) % 65536)).getD (i + 1) 0) : Int) = (a.getD (i + 1) 0) := cSt_next ha (by omega)
        simp only [q34]
        refine At.p (some 35) (P_move rfl rfl) ?_
        refine At.p (some 36) (P_add_i rfl rfl rfl (by omega)) ?_
        refine At.p (some 37) (P_sub_i rfl rfl rfl (by omega)) ?_
        have q37 : ((((a.getD (i + 1) 0) + ((a.getD i 0 + zcy a i) / 65536 + 1)) - 1) : Int) = (a.getD (i + 1) 0 + (a.getD i 0 + zcy a i) / 65536) := (by omega)
        simp only [q37]
        refine At.p (some 38) (P_indexAddr_arr1 (j := (i + 1)) rfl Try.underlying44 sz2 rfl rfl RO OG) ?_
        refine At.s (S_storeM none (f := iV) (l := (((cSt a i).set i ((a.getD i 0 + zcy a i) + 65536)).set i ((a.getD i 0 + zcy a i) % 65536))) (u := (a.getD (i + 1) 0 + (a.getD i 0 + zcy a i) / 65536)) (k := 1) rfl rfl rfl sz2 rfl rfl rfl OG ?_)
        refine At.nil ?_
        refine At.inb_n ?_
        refine At.next ?_
        refine At.region ?_
        refine At.p (some 7) (P_move rfl rfl) ?_
        refine At.p (some 8) (P_add_i rfl rfl rfl (by omega)) ?_
        refine At.p (some 3) (P_assign rfl rfl) ?_
        refine At.nil ?_
        refine At.next ?_
        refine At.to [(0, _), (1, _), (2, _), (3, _)] [(1, ⟨true, b1, 0, 44, ((cSt a (i + 1))).map iV, 0⟩), (2, _)] (AllL.cons_ (rfl) (AllL.cons_ (rfl) (AllL.cons_ (rfl) (AllL.cons_ (rfl) trivial)))) (AllL.cons_ ((by rw [← cSt_step ha (by omega)]; rfl)) (AllL.cons_ (rfl) trivial)) ?_
        exact hKc0 _ _ _ (by omega) ⟨i + 1, rfl, rfl, rfl, (by omega)⟩
      · -- cond 28 f
        have e28 : ¬ (i : Int) < 15 := of_decide_eq_false h28
        obtain rfl : i = 15 := by omega
        have hzg := zg_lt (valZ a) 0
        refine At.region ?_
        refine At.p (some 39) (P_indexAddr_arr1 (j := 0) rfl Try.underlying44 sz2 rfl rfl rfl (by decide)) ?_
        refine At.q (some 40) (Q_loadM (k := 1) (f := iV) (l := (((cSt a 15).set 15 ((a.getD 15 0 + zcy a 15) + 65536)).set 15 ((a.getD 15 0 + zcy a 15) % 65536))) ((0 : Int)) rfl rfl Try.underlying2 rfl rfl OG) ?_
        have q40 : (((((cSt a 15).set 15 ((a.getD 15 0 + zcy a 15) + 65536)).set 15 ((a.getD 15 0 + zcy a 15) % 65536)).getD 0 0) : Int) = (zg (valZ a) 0) := cSt_low ha
        simp only [q40]
        refine At.p (some 41) (P_move rfl rfl) ?_
        refine At.p (some 42) (P_sub_i rfl rfl rfl (by omega)) ?_
        refine At.p (some 43) (P_mul_i rfl rfl rfl (by omega)) ?_
        refine At.p (some 44) (P_add_i rfl rfl rfl (by omega)) ?_
        have q44 : (((zg (valZ a) 0) + (38 * (((a.getD 15 0 + zcy a 15) / 65536 + 1) - 1))) : Int) = (zg (valZ a) 0 + 38 * ((a.getD 15 0 + zcy a 15) / 65536)) := (by omega)
        simp only [q44]
        refine At.p (some 45) (P_indexAddr_arr1 (j := 0) rfl Try.underlying44 sz2 rfl rfl rfl (by decide)) ?_
        refine At.s (S_storeM none (f := iV) (l := (((cSt a 15).set 15 ((a.getD 15 0 + zcy a 15) + 65536)).set 15 ((a.getD 15 0 + zcy a 15) % 65536))) (u := (zg (valZ a) 0 + 38 * ((a.getD 15 0 + zcy a 15) / 65536))) (k := 1) rfl rfl rfl sz2 rfl rfl rfl OG ?_)
        refine At.nil ?_
        refine At.inb_n ?_
        refine At.next ?_
        refine At.region ?_
        refine At.p (some 7) (P_move rfl rfl) ?_
        refine At.p (some 8) (P_add_i rfl rfl rfl (by omega)) ?_
        refine At.p (some 3) (P_assign rfl rfl) ?_
        refine At.nil ?_
        refine At.next ?_
        refine At.to [(0, _), (1, _), (2, _), (3, _)] [(1, ⟨true, b1, 0, 44, ((cSt a (15 + 1))).map iV, 0⟩), (2, _)] (AllL.cons_ (rfl) (AllL.cons_ (rfl) (AllL.cons_ (rfl) (AllL.cons_ (rfl) trivial)))) (AllL.cons_ ((by rw [← cSt_end ha]; rfl)) (AllL.cons_ (rfl) trivial)) ?_
        exact hKc0 _ _ _ (by omega) ⟨15 + 1, rfl, rfl, rfl, (by omega)⟩
    · -- cond 6 f
      have e6 : ¬ (i : Int) < 16 := of_decide_eq_false h6
      refine At.exit ?_
      refine At.thn_e ?_
      refine At.thn_e ?_
      refine At.inb_hit ?_
      refine At.next ?_
      refine At.seq ?_
      obtain rfl : i = 16 := by omega
      refine At.region ?_
      refine At.q (some 46) (Q_loadA (k := 1) rfl rfl Try.underlying44 rfl sz44 LN rfl) ?_
      refine At.s (S_storeA none (k := 2) (vs := ((cSt a 16)).map iV) rfl rfl rfl (by rw [sz44]; exact congrArg some LN) rfl (one_map (fun _ => rfl)) NG rfl LN ?_)
      refine At.nil ?_
      refine At.next ?_
      refine At.ret ?_
      have hq0 : ((cSt a 16)).map iV = (cR (valZ a)).map iV := (by rw [cSt_all a])
      refine At.giveV (.inl rfl) [] (rows' := []) (ResV.cellA (k := 2) rfl rfl Try.underlying44 rfl sz44 LN rfl) rfl (by simp) (by simp) ?_
      exact ⟨congrArg (fun z => Value.agg (List.toArray z)) hq0, rfl⟩

set_option maxHeartbeats 2000000 in
theorem r_Add {a : List Int} {b : List Int} (ha : a.length = 16) (hb : b.length = 16) (ba : BZ 131072 a) (bb : BZ 131072 b) :
    Con Try.prog 19 [.agg ((a).map iV).toArray, .agg ((b).map iV).toArray] [] (fun v rs => v = .agg ((addR a b).map iV).toArray ∧ rs = []) := by
  refine Con.enter Try.func19 Try.ntmps19 (Nat.le_of_ble_eq_true rfl) rfl fun w => ?_
  refine At.seq ?_
  refine At.region ?_
  refine At.s (S_box (some 2) 2 (zs := (a).map iV) rfl rfl rfl (fun b2 => ?_))
  refine At.s (S_box (some 3) 3 (zs := (b).map iV) rfl rfl rfl (fun b3 => ?_))
  refine At.s (S_alloc (some 4) 4 (zs := (List.replicate 16 (0 : Int)).map iV) rfl ze44 rfl (fun b4 => ?_))
  refine At.nil ?_
  refine At.next ?_
  refine At.seq ?_
  refine At.seq ?_
  refine At.region ?_
  refine At.p (some 5) (P_assign rfl rfl) ?_
  refine At.nil ?_
  refine At.next ?_
  refine At.block ?_
  refine At.loopx (I := fun m fr H => ∃ (i : Nat), m = 16 - i ∧ fr = frOf [(0, .agg ((a).map iV).toArray), (1, .agg ((b).map iV).toArray), (2, ptr b2 0), (3, ptr b3 0), (4, ptr b4 0), (5, iV (i : Int))] ∧ H = hOf [(2, ⟨true, b2, 0, 44, ((zwI (· + ·) a b i)).map iV, 0⟩), (3, ⟨true, b3, 0, 44, (b).map iV, 0⟩), (4, ⟨true, b4, 0, 44, (List.replicate 16 (0 : Int)).map iV, 0⟩)] ∧ (i ≤ 16)) ?_ ?_
  · intro Kc0 hKc0
    refine At.to [(0, _), (1, _), (2, _), (3, _), (4, _), (5, _)] [(2, ⟨true, b2, 0, 44, ((zwI (· + ·) a b 0)).map iV, 0⟩), (3, _), (4, _)] (AllL.cons_ (rfl) (AllL.cons_ (rfl) (AllL.cons_ (rfl) (AllL.cons_ (rfl) (AllL.cons_ (rfl) (AllL.cons_ (rfl) trivial)))))) (AllL.cons_ ((by rw [zwI_zero]; rfl)) (AllL.cons_ (rfl) (AllL.cons_ (rfl) trivial))) ?_
    exact hKc0 _ _ _ ⟨0, rfl, rfl, rfl, (by omega)⟩
  · rintro m fr H ⟨i, rfl, rfl, rfl, hi⟩ Kc0 hKc0
    have hzl := zwI_len (f := (· + ·)) ha hb hi
    have hg1 := ba.get (by decide) i
    have hg2 := bb.get (by decide) i
    refine At.seq ?_
    refine At.seq ?_
    refine At.region ?_
    refine At.p (some 6) (P_move rfl rfl) ?_
    refine At.p (some 7) (P_cmp rfl rfl rfl rfl rfl rfl) ?_
    refine At.nil ?_
    refine At.next ?_
    refine At.cond rfl (fun h7 => ?_) (fun h7 => ?_)
    · -- cond 7 t
      have e7 : (i : Int) < 16 := of_decide_eq_true h7
      refine At.skip ?_
      refine At.next ?_
      refine At.seq ?_
      refine At.block ?_
      refine At.draws 8 [] [.q false [0, 1, 2, 3, 4, 5, 6, 7]] (by kernel_rfl) (by kernel_rfl) ?_
      refine At.wp (some 10) (P_move rfl rfl) ?_
      refine At.wp (some 11) (P_move rfl rfl) ?_
      refine At.wp (some 12) (P_indexAddr_arr1 (j := i) rfl Try.underlying44 sz2 rfl rfl RO OG) ?_
      refine At.wq (some 13) (Q_loadM (k := 2) (f := iV) (l := (zwI (· + ·) a b i)) ((0 : Int)) rfl rfl Try.underlying2 rfl rfl OG) ?_
      have q13 : (((zwI (· + ·) a b i).getD i 0) : Int) = (a.getD i 0) := zwI_at ha hb (by omega)
      simp only [q13]
      refine At.wp (some 14) (P_move rfl rfl) ?_
      refine At.wp (some 15) (P_indexAddr_arr1 (j := i) rfl Try.underlying44 sz2 rfl rfl RO OG) ?_
      refine At.wq (some 16) (Q_loadM (k := 3) (f := iV) (l := b) ((0 : Int)) rfl rfl Try.underlying2 rfl rfl OG) ?_
      refine At.wp (some 17) (P_add_i rfl rfl rfl (by omega)) ?_
      refine At.wqn ?_
      refine At.wt rfl ?_
      refine At.p (some 18) (P_indexAddr_arr1 (j := i) rfl Try.underlying44 sz2 rfl rfl RO OG) ?_
      refine At.s (S_storeM none (f := iV) (l := (zwI (· + ·) a b i)) (u := ((a.getD i 0) + (b.getD i 0))) (k := 2) rfl rfl rfl sz2 rfl rfl rfl OG ?_)
      refine At.nil ?_
      refine At.inb_n ?_
      refine At.next ?_
      refine At.region ?_
      refine At.p (some 8) (P_move rfl rfl) ?_
      refine At.p (some 9) (P_add_i rfl rfl rfl (by omega)) ?_
      refine At.p (some 5) (P_assign rfl rfl) ?_
      refine At.nil ?_
      refine At.next ?_
      refine At.to [(0, _), (1, _), (2, _), (3, _), (4, _), (5, _)] [(2, ⟨true, b2, 0, 44, ((zwI (· + ·) a b (i + 1))).map iV, 0⟩), (3, _), (4, _)] (AllL.cons_ (rfl) (AllL.cons_ (rfl) (AllL.cons_ (rfl) (AllL.cons_ (rfl) (AllL.cons_ (rfl) (AllL.cons_ (rfl) trivial)))))) (AllL.cons_ ((by rw [← zwI_step ha hb (by omega)]; rfl)) (AllL.cons_ (rfl) (AllL.cons_ (rfl) trivial))) ?_
      exact hKc0 _ _ _ (by omega) ⟨i + 1, rfl, rfl, rfl, (by omega)⟩
    · -- cond 7 f
      have e7 : ¬ (i : Int) < 16 := of_decide_eq_false h7
      refine At.exit ?_
      refine At.thn_e ?_
      refine At.thn_e ?_
      refine At.inb_hit ?_
      refine At.next ?_
      refine At.seq ?_
      obtain rfl : i = 16 := by omega
      refine At.region ?_
      refine At.q (some 19) (Q_loadA (k := 2) rfl rfl Try.underlying44 rfl sz44 LN rfl) ?_
      refine At.s (S_storeA none (k := 4) (vs := ((zwI (· + ·) a b 16)).map iV) rfl rfl rfl (by rw [sz44]; exact congrArg some LN) rfl (one_map (fun _ => rfl)) NG rfl LN ?_)
      refine At.nil ?_
      refine At.next ?_
      refine At.ret ?_
      have hq0 : ((zwI (· + ·) a b 16)).map iV = (addR a b).map iV := (by rw [zwI_all ha hb, addR])
      refine At.giveV (.inl rfl) [] (rows' := []) (ResV.cellA (k := 4) rfl rfl Try.underlying44 rfl sz44 LN rfl) rfl (by simp) (by simp) ?_
      exact ⟨congrArg (fun z => Value.agg (List.toArray z)) hq0, rfl⟩

set_option maxHeartbeats 2000000 in
theorem r_Sub {a : List Int} {b : List Int} (ha : a.length = 16) (hb : b.length = 16) (ba : BZ 131072 a) (bb : BZ 131072 b) :
    Con Try.prog 20 [.agg ((a).map iV).toArray, .agg ((b).map iV).toArray] [] (fun v rs => v = .agg ((subR a b).map iV).toArray ∧ rs = []) := by
  refine Con.enter Try.func20 Try.ntmps20 (Nat.le_of_ble_eq_true rfl) rfl fun w => ?_
  refine At.seq ?_
  refine At.region ?_
  refine At.s (S_box (some 2) 2 (zs := (a).map iV) rfl rfl rfl (fun b2 => ?_))
  refine At.s (S_box (some 3) 3 (zs := (b).map iV) rfl rfl rfl (fun b3 => ?_))
  refine At.s (S_alloc (some 4) 4 (zs := (List.replicate 16 (0 : Int)).map iV) rfl ze44 rfl (fun b4 => ?_))
  refine At.nil ?_
  refine At.next ?_
  refine At.seq ?_
  refine At.seq ?_
  refine At.region ?_
  refine At.p (some 5) (P_assign rfl rfl) ?_
  refine At.nil ?_
  refine At.next ?_
  refine At.block ?_
  refine At.loopx (I := fun m fr H => ∃ (i : Nat), m = 16 - i ∧ fr = frOf [(0, .agg ((a).map iV).toArray), (1, .agg ((b).map iV).toArray), (2, ptr b2 0), (3, ptr b3 0), (4, ptr b4 0), (5, iV (i : Int))] ∧ H = hOf [(2, ⟨true, b2, 0, 44, ((zwI (· - ·) a b i)).map iV, 0⟩), (3, ⟨true, b3, 0, 44, (b).map iV, 0⟩), (4, ⟨true, b4, 0, 44, (List.replicate 16 (0 : Int)).map iV, 0⟩)] ∧ (i ≤ 16)) ?_ ?_
  · intro Kc0 hKc0
    refine At.to [(0, _), (1, _), (2, _), (3, _), (4, _), (5, _)] [(2, ⟨true, b2, 0, 44, ((zwI (· - ·) a b 0)).map iV, 0⟩), (3, _), (4, _)] (AllL.cons_ (rfl) (AllL.cons_ (rfl) (AllL.cons_ (rfl) (AllL.cons_ (rfl) (AllL.cons_ (rfl) (AllL.cons_ (rfl) trivial)))))) (AllL.cons_ ((by rw [zwI_zero]; rfl)) (AllL.cons_ (rfl) (AllL.cons_ (rfl) trivial))) ?_
    exact hKc0 _ _ _ ⟨0, rfl, rfl, rfl, (by omega)⟩
  · rintro m fr H ⟨i, rfl, rfl, rfl, hi⟩ Kc0 hKc0
    have hzl := zwI_len (f := (· - ·)) ha hb hi
    have hg1 := ba.get (by decide) i
    have hg2 := bb.get (by decide) i
    refine At.seq ?_
    refine At.seq ?_
    refine At.region ?_
    refine At.p (some 6) (P_move rfl rfl) ?_
    refine At.p (some 7) (P_cmp rfl rfl rfl rfl rfl rfl) ?_
    refine At.nil ?_
    refine At.next ?_
    refine At.cond rfl (fun h7 => ?_) (fun h7 => ?_)
    · -- cond 7 t
      have e7 : (i : Int) < 16 := of_decide_eq_true h7
      refine At.skip ?_
      refine At.next ?_
      refine At.seq ?_
      refine At.block ?_
      refine At.draws 8 [] [.q false [0, 1, 2, 3, 4, 5, 6, 7]] (by kernel_rfl) (by kernel_rfl) ?_
      refine At.wp (some 10) (P_move rfl rfl) ?_
      refine At.wp (some 11) (P_move rfl rfl) ?_
      refine At.wp (some 12) (P_indexAddr_arr1 (j := i) rfl Try.underlying44 sz2 rfl rfl RO OG) ?_
      refine At.wq (some 13) (Q_loadM (k := 2) (f := iV) (l := (zwI (· - ·) a b i)) ((0 : Int)) rfl rfl Try.underlying2 rfl rfl OG) ?_
      have q13 : (((zwI (· - ·) a b i).getD i 0) : Int) = (a.getD i 0) := zwI_at ha hb (by omega)
      simp only [q13]
      refine At.wp (some 14) (P_move rfl rfl) ?_
      refine At.wp (some 15) (P_indexAddr_arr1 (j := i) rfl Try.underlying44 sz2 rfl rfl RO OG) ?_
      refine At.wq (some 16) (Q_loadM (k := 3) (f := iV) (l := b) ((0 : Int)) rfl rfl Try.underlying2 rfl rfl OG) ?_
      refine At.wp (some 17) (P_sub_i rfl rfl rfl (by omega)) ?_
      refine At.wqn ?_
      refine At.wt rfl ?_
      refine At.p (some 18) (P_indexAddr_arr1 (j := i) rfl Try.underlying44 sz2 rfl rfl RO OG) ?_
      refine At.s (S_storeM none (f := iV) (l := (zwI (· - ·) a b i)) (u := ((a.getD i 0) - (b.getD i 0))) (k := 2) rfl rfl rfl sz2 rfl rfl rfl OG ?_)
      refine At.nil ?_
      refine At.inb_n ?_
      refine At.next ?_
      refine At.region ?_
      refine At.p (some 8) (P_move rfl rfl) ?_
      refine At.p (some 9) (P_add_i rfl rfl rfl (by omega)) ?_
      refine At.p (some 5) (P_assign rfl rfl) ?_
      refine At.nil ?_
      refine At.next ?_
      refine At.to [(0, _), (1, _), (2, _), (3, _), (4, _), (5, _)] [(2, ⟨true, b2, 0, 44, ((zwI (· - ·) a b (i + 1))).map iV, 0⟩), (3, _), (4, _)] (AllL.cons_ (rfl) (AllL.cons_ (rfl) (AllL.cons_ (rfl) (AllL.cons_ (rfl) (AllL.cons_ (rfl) (AllL.cons_ (rfl) trivial)))))) (AllL.cons_ ((by rw [← zwI_step ha hb (by omega)]; rfl)) (AllL.cons_ (rfl) (AllL.cons_ (rfl) trivial))) ?_
      exact hKc0 _ _ _ (by omega) ⟨i + 1, rfl, rfl, rfl, (by omega)⟩
    · -- cond 7 f
      have e7 : ¬ (i : Int) < 16 := of_decide_eq_false h7
      refine At.exit ?_
      refine At.thn_e ?_
      refine At.thn_e ?_
      refine At.inb_hit ?_
      refine At.next ?_
      refine At.seq ?_
      obtain rfl : i = 16 := by omega
      refine At.region ?_
      refine At.q (some 19) (Q_loadA (k := 2) rfl rfl Try.underlying44 rfl sz44 LN rfl) ?_
      refine At.s (S_storeA none (k := 4) (vs := ((zwI (· - ·) a b 16)).map iV) rfl rfl rfl (by rw [sz44]; exact congrArg some LN) rfl (one_map (fun _ => rfl)) NG rfl LN ?_)
      refine At.nil ?_
      refine At.next ?_
      refine At.ret ?_
      have hq0 : ((zwI (· - ·) a b 16)).map iV = (subR a b).map iV := (by rw [zwI_all ha hb, subR])
      refine At.giveV (.inl rfl) [] (rows' := []) (ResV.cellA (k := 4) rfl rfl Try.underlying44 rfl sz44 LN rfl) rfl (by simp) (by simp) ?_
      exact ⟨congrArg (fun z => Value.agg (List.toArray z)) hq0, rfl⟩

set_option maxHeartbeats 2000000 in
theorem r_Mul {a : List Int} {b : List Int} (ha : a.length = 16) (hb : b.length = 16) (ba : BZ 262144 a) (bb : BZ 262144 b) :
    Con Try.prog 21 [.agg ((a).map iV).toArray, .agg ((b).map iV).toArray] [] (fun v rs => v = .agg ((mulR a b).map iV).toArray ∧ rs = []) := by
  refine Con.enter Try.func21 Try.ntmps21 (Nat.le_of_ble_eq_true rfl) rfl fun w => ?_
  refine At.seq ?_
  refine At.region ?_
  refine At.s (S_box (some 2) 2 (zs := (a).map iV) rfl rfl rfl (fun b2 => ?_))
  refine At.s (S_box (some 3) 3 (zs := (b).map iV) rfl rfl rfl (fun b3 => ?_))
  refine At.s (S_alloc (some 4) 4 (zs := (List.replicate 16 (0 : Int)).map iV) rfl ze44 rfl (fun b4 => ?_))
  refine At.nil ?_
  refine At.next ?_
  refine At.seq ?_
  refine At.region ?_
  refine At.s (S_alloc (some 5) 5 (zs := (List.replicate 31 (0 : Int)).map iV) rfl ze56 rfl (fun b5 => ?_))
  refine At.nil ?_
  refine At.next ?_
  refine At.seq ?_
  refine At.seq ?_
  refine At.region ?_
  refine At.p (some 6) (P_assign rfl rfl) ?_
  refine At.nil ?_
  refine At.next ?_
  refine At.block ?_
  refine At.loopx (I := fun m fr H => ∃ (i : Nat), m = 16 - i ∧ fr = frOf [(0, .agg ((a).map iV).toArray), (1, .agg ((b).map iV).toArray), (2, ptr b2 0), (3, ptr b3 0), (4, ptr b4 0), (5, ptr b5 0), (6, iV (i : Int))] ∧ H = hOf [(2, ⟨true, b2, 0, 44, (a).map iV, 0⟩), (3, ⟨true, b3, 0, 44, (b).map iV, 0⟩), (4, ⟨true, b4, 0, 44, (List.replicate 16 (0 : Int)).map iV, 0⟩), (5, ⟨true, b5, 0, 56, ((zT a b i)).map iV, 0⟩)] ∧ (i ≤ 16)) ?_ ?_
  · intro Kc0 hKc0
    refine At.to [(0, _), (1, _), (2, _), (3, _), (4, _), (5, _), (6, _)] [(2, _), (3, _), (4, _), (5, ⟨true, b5, 0, 56, ((zT a b 0)).map iV, 0⟩)] (AllL.cons_ (rfl) (AllL.cons_ (rfl) (AllL.cons_ (rfl) (AllL.cons_ (rfl) (AllL.cons_ (rfl) (AllL.cons_ (rfl) (AllL.cons_ (rfl) trivial))))))) (AllL.cons_ (rfl) (AllL.cons_ (rfl) (AllL.cons_ (rfl) (AllL.cons_ ((by rw [zT_zero]; rfl)) trivial)))) ?_
    exact hKc0 _ _ _ ⟨0, rfl, rfl, rfl, (by omega)⟩
  · rintro m fr H ⟨i, rfl, rfl, rfl, hi⟩ Kc0 hKc0
    have htl := zT_len a b i
    refine At.seq ?_
    refine At.seq ?_
    refine At.region ?_
    refine At.p (some 10) (P_move rfl rfl) ?_
    refine At.p (some 11) (P_cmp rfl rfl rfl rfl rfl rfl) ?_
    refine At.nil ?_
    refine At.next ?_
    refine At.cond rfl (fun h11 => ?_) (fun h11 => ?_)
    · -- cond 11 t
      have e11 : (i : Int) < 16 := of_decide_eq_true h11
      refine At.skip ?_
      refine At.next ?_
      refine At.seq ?_
      refine At.block ?_
      refine At.seq ?_
      refine At.region ?_
      refine At.p (some 7) (P_assign rfl rfl) ?_
      refine At.nil ?_
      refine At.next ?_
      refine At.block ?_
      refine At.loopx (I := fun m fr H => ∃ (j : Nat), m = 16 - j ∧ fr = frOf [(0, .agg ((a).map iV).toArray), (1, .agg ((b).map iV).toArray), (2, ptr b2 0), (3, ptr b3 0), (4, ptr b4 0), (5, ptr b5 0), (6, iV (i : Int)), (7, iV (j : Int)), (10, iV (i : Int)), (11, .bool (decide ((i : Int) < 16)))] ∧ H = hOf [(2, ⟨true, b2, 0, 44, (a).map iV, 0⟩), (3, ⟨true, b3, 0, 44, (b).map iV, 0⟩), (4, ⟨true, b4, 0, 44, (List.replicate 16 (0 : Int)).map iV, 0⟩), (5, ⟨true, b5, 0, 56, ((zR a b i (zT a b i) j)).map iV, 0⟩)] ∧ (j ≤ 16)) ?_ ?_
      · intro Kc1 hKc1
        refine At.to [(0, _), (1, _), (2, _), (3, _), (4, _), (5, _), (6, _), (7, _), (10, _), (11, _)] [(2, _), (3, _), (4, _), (5, ⟨true, b5, 0, 56, ((zR a b i (zT a b i) 0)).map iV, 0⟩)] (AllL.cons_ (rfl) (AllL.cons_ (rfl) (AllL.cons_ (rfl) (AllL.cons_ (rfl) (AllL.cons_ (rfl) (AllL.cons_ (rfl) (AllL.cons_ (rfl) (AllL.cons_ (rfl) (AllL.cons_ (rfl) (AllL.cons_ (rfl) trivial)))))))))) (AllL.cons_ (rfl) (AllL.cons_ (rfl) (AllL.cons_ (rfl) (AllL.cons_ ((by rw [zR_zero]; rfl)) trivial)))) ?_
        exact hKc1 _ _ _ ⟨0, rfl, rfl, rfl, (by omega)⟩
      · rintro m fr H ⟨j, rfl, rfl, rfl, hj⟩ Kc1 hKc1
        have hrl := (zR_len a b i (zT a b i) j).trans htl
        have hm1 := zmul_bd (ba.get (by decide) i) (bb.get (by decide) j)
        have hz1 := (zR_bd ba bb (i := i) (by omega) (zT_bd ba bb i) j).get (by omega) (i + j)
        refine At.seq ?_
        refine At.seq ?_
        refine At.region ?_
        refine At.p (some 14) (P_move rfl rfl) ?_
        refine At.p (some 15) (P_cmp rfl rfl rfl rfl rfl rfl) ?_
        refine At.nil ?_
        refine At.next ?_
        refine At.cond rfl (fun h15 => ?_) (fun h15 => ?_)
        · -- cond 15 t
          have e15 : (j : Int) < 16 := of_decide_eq_true h15
          refine At.skip ?_
          refine At.next ?_
          refine At.seq ?_
          refine At.block ?_
          refine At.draws 16 [] [.q false [0, 1, 2, 3, 4, 5, 6, 7, 8, 9, 10, 11, 12, 13, 14, 15]] (by kernel_rfl) (by kernel_rfl) ?_
          refine At.wp (some 18) (P_move rfl rfl) ?_
          refine At.wp (some 19) (P_move rfl rfl) ?_
          refine At.wp (some 20) (P_add_i rfl rfl rfl (by omega)) ?_
          refine At.wp (some 21) (P_move rfl rfl) ?_
          refine At.wp (some 22) (P_move rfl rfl) ?_
          refine At.wp (some 23) (P_add_i rfl rfl rfl (by omega)) ?_
          refine At.wp (some 24) (P_indexAddr_arr1 (j := (i + j)) rfl Try.underlying56 sz2 rfl rfl RO OG) ?_
          refine At.wq (some 25) (Q_loadM (k := 5) (f := iV) (l := (zR a b i (zT a b i) j)) ((0 : Int)) rfl rfl Try.underlying2 rfl rfl OG) ?_
          refine At.wp (some 26) (P_move rfl rfl) ?_
          refine At.wp (some 27) (P_indexAddr_arr1 (j := i) rfl Try.underlying44 sz2 rfl rfl RO OG) ?_
          refine At.wq (some 28) (Q_loadM (k := 2) (f := iV) (l := a) ((0 : Int)) rfl rfl Try.underlying2 rfl rfl OG) ?_
          refine At.wp (some 29) (P_move rfl rfl) ?_
          refine At.wp (some 30) (P_indexAddr_arr1 (j := j) rfl Try.underlying44 sz2 rfl rfl RO OG) ?_
          refine At.wq (some 31) (Q_loadM (k := 3) (f := iV) (l := b) ((0 : Int)) rfl rfl Try.underlying2 rfl rfl OG) ?_
          refine At.wp (some 32) (P_mul_i rfl rfl rfl (by omega)) ?_
          refine At.wp (some 33) (P_add_i rfl rfl rfl (by omega)) ?_
          refine At.wqn ?_
          refine At.wt rfl ?_
          refine At.p (some 34) (P_indexAddr_arr1 (j := (i + j)) rfl Try.underlying56 sz2 rfl rfl RO OG) ?_
          refine At.s (S_storeM none (f := iV) (l := (zR a b i (zT a b i) j)) (u := (((zR a b i (zT a b i) j).getD (i + j) 0) + ((a.getD i 0) * (b.getD j 0)))) (k := 5) rfl rfl rfl sz2 rfl rfl rfl OG ?_)
          refine At.nil ?_
          refine At.inb_n ?_
          refine At.next ?_
          refine At.region ?_
          refine At.p (some 16) (P_move rfl rfl) ?_
          refine At.p (some 17) (P_add_i rfl rfl rfl (by omega)) ?_
          refine At.p (some 7) (P_assign rfl rfl) ?_
          refine At.nil ?_
          refine At.next ?_
          refine At.to [(0, _), (1, _), (2, _), (3, _), (4, _), (5, _), (6, _), (7, _), (10, _), (11, _)] [(2, _), (3, _), (4, _), (5, ⟨true, b5, 0, 56, ((zR a b i (zT a b i) (j + 1))).map iV, 0⟩)] (AllL.cons_ (rfl) (AllL.cons_ (rfl) (AllL.cons_ (rfl) (AllL.cons_ (rfl) (AllL.cons_ (rfl) (AllL.cons_ (rfl) (AllL.cons_ (rfl) (AllL.cons_ (rfl) (AllL.cons_ (rfl) (AllL.cons_ (rfl) trivial)))))))))) (AllL.cons_ (rfl) (AllL.cons_ (rfl) (AllL.cons_ (rfl) (AllL.cons_ ((by rw [zR_succ]; rfl)) trivial)))) ?_
          exact hKc1 _ _ _ (by omega) ⟨j + 1, rfl, rfl, rfl, (by omega)⟩
        · -- cond 15 f
          have e15 : ¬ (j : Int) < 16 := of_decide_eq_false h15
          refine At.exit ?_
          refine At.thn_e ?_
          refine At.thn_e ?_
          refine At.inb_hit ?_
          refine At.inb_n ?_
          refine At.next ?_
          obtain rfl : j = 16 := by omega
          refine At.region ?_
          refine At.p (some 12) (P_move rfl rfl) ?_
          refine At.p (some 13) (P_add_i rfl rfl rfl (by omega)) ?_
          refine At.p (some 6) (P_assign rfl rfl) ?_
          refine At.nil ?_
          refine At.next ?_
          refine At.to [(0, _), (1, _), (2, _), (3, _), (4, _), (5, _), (6, _)] [(2, _), (3, _), (4, _), (5, ⟨true, b5, 0, 56, ((zT a b (i + 1))).map iV, 0⟩)] (AllL.cons_ (rfl) (AllL.cons_ (rfl) (AllL.cons_ (rfl) (AllL.cons_ (rfl) (AllL.cons_ (rfl) (AllL.cons_ (rfl) (AllL.cons_ (rfl) trivial))))))) (AllL.cons_ (rfl) (AllL.cons_ (rfl) (AllL.cons_ (rfl) (AllL.cons_ ((by rw [zT_succ]; rfl)) trivial)))) ?_
          exact hKc0 _ _ _ (by omega) ⟨i + 1, rfl, rfl, rfl, (by omega)⟩
    · -- cond 11 f
      have e11 : ¬ (i : Int) < 16 := of_decide_eq_false h11
      refine At.exit ?_
      refine At.thn_e ?_
      refine At.thn_e ?_
      refine At.inb_hit ?_
      refine At.next ?_
      refine At.seq ?_
      obtain rfl : i = 16 := by omega
      refine At.region ?_
      refine At.s (S_alloc (some 8) 8 (zs := (List.replicate 16 (0 : Int)).map iV) rfl ze44 rfl (fun b8 => ?_))
      refine At.nil ?_
      refine At.next ?_
      refine At.seq ?_
      refine At.seq ?_
      refine At.region ?_
      refine At.p (some 9) (P_assign rfl rfl) ?_
      refine At.nil ?_
      refine At.next ?_
      refine At.block ?_
      refine At.loopx (I := fun m fr H => ∃ (i : Nat), m = 16 - i ∧ fr = frOf [(0, .agg ((a).map iV).toArray), (1, .agg ((b).map iV).toArray), (2, ptr b2 0), (3, ptr b3 0), (4, ptr b4 0), (5, ptr b5 0), (6, iV (16 : Int)), (8, ptr b8 0), (9, iV (i : Int)), (10, iV (16 : Int)), (11, .bool (decide ((16 : Int) < 16)))] ∧ H = hOf [(2, ⟨true, b2, 0, 44, (a).map iV, 0⟩), (3, ⟨true, b3, 0, 44, (b).map iV, 0⟩), (4, ⟨true, b4, 0, 44, (List.replicate 16 (0 : Int)).map iV, 0⟩), (5, ⟨true, b5, 0, 56, ((zT a b 16)).map iV, 0⟩), (8, ⟨true, b8, 0, 44, ((fI (zT a b 16) i)).map iV, 0⟩)] ∧ (i ≤ 16)) ?_ ?_
      · intro Kc2 hKc2
        refine At.to [(0, _), (1, _), (2, _), (3, _), (4, _), (5, _), (6, _), (8, _), (9, _), (10, _), (11, _)] [(2, _), (3, _), (4, _), (5, _), (8, ⟨true, b8, 0, 44, ((fI (zT a b 16) 0)).map iV, 0⟩)] (AllL.cons_ (rfl) (AllL.cons_ (rfl) (AllL.cons_ (rfl) (AllL.cons_ (rfl) (AllL.cons_ (rfl) (AllL.cons_ (rfl) (AllL.cons_ (rfl) (AllL.cons_ (rfl) (AllL.cons_ (rfl) (AllL.cons_ (rfl) (AllL.cons_ (rfl) trivial))))))))))) (AllL.cons_ (rfl) (AllL.cons_ (rfl) (AllL.cons_ (rfl) (AllL.cons_ (rfl) (AllL.cons_ ((by rw [fI_zero]; rfl)) trivial))))) ?_
        exact hKc2 _ _ _ ⟨0, rfl, rfl, rfl, (by omega)⟩
      · rintro m fr H ⟨i, rfl, rfl, rfl, hi⟩ Kc2 hKc2
        have hfl := fI_len (zT_len a b 16) hi
        have hg1 := (zT_bd ba bb 16).get (by decide) i
        have hg2 := (zT_bd ba bb 16).get (by decide) (i + 16)
        refine At.seq ?_
        refine At.seq ?_
        refine At.region ?_
        refine At.p (some 35) (P_move rfl rfl) ?_
        refine At.p (some 36) (P_cmp rfl rfl rfl rfl rfl rfl) ?_
        refine At.nil ?_
        refine At.next ?_
        refine At.cond rfl (fun h36 => ?_) (fun h36 => ?_)
        · -- cond 36 t
          have e36 : (i : Int) < 16 := of_decide_eq_true h36
          refine At.skip ?_
          refine At.next ?_
          refine At.seq ?_
          refine At.block ?_
          refine At.seq ?_
          refine At.region ?_
          refine At.p (some 39) (P_move rfl rfl) ?_
          refine At.p (some 40) (P_move rfl rfl) ?_
          refine At.p (some 41) (P_indexAddr_arr1 (j := i) rfl Try.underlying56 sz2 rfl rfl RO OG) ?_
          refine At.q (some 42) (Q_loadM (k := 5) (f := iV) (l := (zT a b 16)) ((0 : Int)) rfl rfl Try.underlying2 rfl rfl OG) ?_
          refine At.p (some 43) (P_indexAddr_arr1 (j := i) rfl Try.underlying44 sz2 rfl rfl RO OG) ?_
          refine At.s (S_storeM none (f := iV) (l := (fI (zT a b 16) i)) (u := ((zT a b 16).getD i 0)) (k := 8) rfl rfl rfl sz2 rfl rfl rfl OG ?_)
          refine At.nil ?_
          refine At.next ?_
          refine At.seq ?_
          refine At.region ?_
          refine At.p (some 44) (P_move rfl rfl) ?_
          refine At.p (some 45) (P_cmp rfl rfl rfl rfl rfl rfl) ?_
          refine At.nil ?_
          refine At.next ?_
          refine At.cond rfl (fun h45 => ?_) (fun h45 => ?_)
          · -- cond 45 t
            have e45 : (i : Int) < 15 := of_decide_eq_true h45
            refine At.draws 10 [] [.q false [0, 1, 2, 3, 4, 5, 6, 7, 8, 9]] (by kernel_rfl) (by kernel_rfl) ?_
            refine At.wp (some 46) (P_move rfl rfl) ?_
            refine At.wp (some 47) (P_move rfl rfl) ?_
            refine At.wp (some 48) (P_indexAddr_arr1 (j := i) rfl Try.underlying44 sz2 rfl rfl RO OG) ?_
            refine At.wq (some 49) (Q_loadM (k := 8) (f := iV) (l := ((fI (zT a b 16) i).set i ((zT a b 16).getD i 0))) ((0 : Int)) rfl rfl Try.underlying2 rfl rfl OG) ?_
            have q49 : ((((fI (zT a b 16) i).set i ((zT a b 16).getD i 0)).getD i 0) : Int) = ((zT a b 16).getD i 0) := set_get (by omega)
            simp only [q49]
            refine At.wp (some 50) (P_move rfl rfl) ?_
            refine At.wp (some 51) (P_add_i rfl rfl rfl (by omega)) ?_
            refine At.wp (some 52) (P_indexAddr_arr1 (j := (i + 16)) rfl Try.underlying56 sz2 rfl rfl RO OG) ?_
            refine At.wq (some 53) (Q_loadM (k := 5) (f := iV) (l := (zT a b 16)) ((0 : Int)) rfl rfl Try.underlying2 rfl rfl OG) ?_
            refine At.wp (some 54) (P_mul_i rfl rfl rfl (by omega)) ?_
            refine At.wp (some 55) (P_add_i rfl rfl rfl (by omega)) ?_
            refine At.wqn ?_
            refine At.wt rfl ?_
            refine At.p (some 56) (P_indexAddr_arr1 (j := i) rfl Try.underlying44 sz2 rfl rfl RO OG) ?_
            refine At.s (S_storeM none (f := iV) (l := ((fI (zT a b 16) i).set i ((zT a b 16).getD i 0))) (u := (((zT a b 16).getD i 0) + (38 * ((zT a b 16).getD (i + 16) 0)))) (k := 8) rfl rfl rfl sz2 rfl rfl rfl OG ?_)
            refine At.nil ?_
            refine At.inb_n ?_
            refine At.next ?_
            refine At.region ?_
            refine At.p (some 37) (P_move rfl rfl) ?_
            refine At.p (some 38) (P_add_i rfl rfl rfl (by omega)) ?_
            refine At.p (some 9) (P_assign rfl rfl) ?_
            refine At.nil ?_
            refine At.next ?_
            refine At.to [(0, _), (1, _), (2, _), (3, _), (4, _), (5, _), (6, _), (8, _), (9, _), (10, _), (11, _)] [(2, _), (3, _), (4, _), (5, _), (8, ⟨true, b8, 0, 44, ((fI (zT a b 16) (i + 1))).map iV, 0⟩)] (AllL.cons_ (rfl) (AllL.cons_ (rfl) (AllL.cons_ (rfl) (AllL.cons_ (rfl) (AllL.cons_ (rfl) (AllL.cons_ (rfl) (AllL.cons_ (rfl) (AllL.cons_ (rfl) (AllL.cons_ (rfl) (AllL.cons_ (rfl) (AllL.cons_ (rfl) trivial))))))))))) (AllL.cons_ (rfl) (AllL.cons_ (rfl) (AllL.cons_ (rfl) (AllL.cons_ (rfl) (AllL.cons_ ((by rw [← fI_step (zT_len a b 16) (by omega)]; rfl)) trivial))))) ?_
            exact hKc2 _ _ _ (by omega) ⟨i + 1, rfl, rfl, rfl, (by omega)⟩
          · -- cond 45 f
            have e45 : ¬ (i : Int) < 15 := of_decide_eq_false h45
            refine At.skip ?_
            refine At.inb_n ?_
            refine At.next ?_
            refine At.region ?_
            refine At.p (some 37) (P_move rfl rfl) ?_
            refine At.p (some 38) (P_add_i rfl rfl rfl (by omega)) ?_
            refine At.p (some 9) (P_assign rfl rfl) ?_
            refine At.nil ?_
            refine At.next ?_
            refine At.to [(0, _), (1, _), (2, _), (3, _), (4, _), (5, _), (6, _), (8, _), (9, _), (10, _), (11, _)] [(2, _), (3, _), (4, _), (5, _), (8, ⟨true, b8, 0, 44, ((fI (zT a b 16) (i + 1))).map iV, 0⟩)] (AllL.cons_ (rfl) (AllL.cons_ (rfl) (AllL.cons_ (rfl) (AllL.cons_ (rfl) (AllL.cons_ (rfl) (AllL.cons_ (rfl) (AllL.cons_ (rfl) (AllL.cons_ (rfl) (AllL.cons_ (rfl) (AllL.cons_ (rfl) (AllL.cons_ (rfl) trivial))))))))))) (AllL.cons_ (rfl) (AllL.cons_ (rfl) (AllL.cons_ (rfl) (AllL.cons_ (rfl) (AllL.cons_ ((by rw [show i = 15 by omega]; rw [← fI_last (zT_len a b 16)]; rfl)) trivial))))) ?_
            exact hKc2 _ _ _ (by omega) ⟨i + 1, rfl, rfl, rfl, (by omega)⟩
        · -- cond 36 f
          have e36 : ¬ (i : Int) < 16 := of_decide_eq_false h36
          refine At.exit ?_
          refine At.thn_e ?_
          refine At.thn_e ?_
          refine At.inb_hit ?_
          refine At.next ?_
          refine At.seq ?_
          obtain rfl : i = 16 := by omega
          have hfa := fI_all (zT_len a b 16)
          have hfb := foldZ_bd ba bb
          have hq1 := mulR_q ba bb
          have hc1 : BZ 1000000000000 (cR (valZ (foldZ (zT a b 16)))) := (cR_bd (n := 15000000000) (by have := valZ_bd (by decide) _ hfb; rw [foldZ_len (zT_len a b 16), show (65536 : Int) ^ 16 = 115792089237316195423570985008687907853269984665640564039457584007913129639936 from rfl] at this; omega) (by decide)).mono (by decide)
          refine At.region ?_
          refine At.q (some 57) (Q_loadA (k := 8) rfl rfl Try.underlying44 rfl sz44 LN rfl) ?_
          rw [hfa]
          have hfl2 := foldZ_len (zT_len a b 16)
          refine At.s (S_callV (some 58) [] [] (vs := [_]) rfl en29 rfl V0 (by simp) (r_carry (a := (foldZ (zT a b 16))) LN (BZ.mono (by first | assumption | exact BR) (by decide))) (by rintro _ _ ⟨rfl, rfl⟩; rfl) ?_)
          rintro _ _ ⟨rfl, rfl⟩
          have := cR_len (valZ (foldZ (zT a b 16)))
          refine At.s (S_callV (some 59) [] [] (vs := [_]) rfl en29 rfl V0 (by simp) (r_carry (a := (cR (valZ (foldZ (zT a b 16))))) LN (BZ.mono (by first | assumption | exact BR) (by decide))) (by rintro _ _ ⟨rfl, rfl⟩; rfl) ?_)
          rintro _ _ ⟨rfl, rfl⟩
          have := cR_len (valZ (cR (valZ (foldZ (zT a b 16)))))
          refine At.s (S_storeA none (k := 4) (vs := (cR (valZ (cR (valZ (foldZ (zT a b 16)))))).map iV) rfl rfl rfl (by rw [sz44]; exact congrArg some LN) rfl (one_map (fun _ => rfl)) NG rfl LN ?_)
          refine At.nil ?_
          refine At.next ?_
          refine At.ret ?_
          have hq0 : (cR (valZ (cR (valZ (foldZ (zT a b 16)))))).map iV = (mulR a b).map iV := (by rw [mulR_eq])
          refine At.giveV (.inl rfl) [] (rows' := []) (ResV.cellA (k := 4) rfl rfl Try.underlying44 rfl sz44 LN rfl) rfl (by simp) (by simp) ?_
          exact ⟨congrArg (fun z => Value.agg (List.toArray z)) hq0, rfl⟩

set_option maxHeartbeats 2000000 in
theorem r_inv {a : List Int} (ha : a.length = 16) (ba : BZ 131072 a) :
    Con Try.prog 23 [.agg ((a).map iV).toArray] [] (fun v rs => v = .agg ((invG mulR a 254).map iV).toArray ∧ rs = []) := by
  refine Con.enter Try.func23 Try.ntmps23 (Nat.le_of_ble_eq_true rfl) rfl fun w => ?_
  refine At.seq ?_
  refine At.region ?_
  refine At.s (S_box (some 1) 1 (zs := (a).map iV) rfl rfl rfl (fun b1 => ?_))
  refine At.s (S_alloc (some 2) 2 (zs := (List.replicate 16 (0 : Int)).map iV) rfl ze44 rfl (fun b2 => ?_))
  refine At.nil ?_
  refine At.next ?_
  refine At.seq ?_
  refine At.region ?_
  refine At.q (some 5) (Q_loadA (k := 1) rfl rfl Try.underlying44 rfl sz44 LN rfl) ?_
  refine At.s (S_alloc (some 3) 3 (zs := (List.replicate 16 (0 : Int)).map iV) rfl ze44 rfl (fun b3 => ?_))
  refine At.s (S_storeA none (k := 3) (vs := (a).map iV) rfl rfl rfl (by rw [sz44]; exact congrArg some LN) rfl (one_map (fun _ => rfl)) NG rfl LN ?_)
  refine At.nil ?_
  refine At.next ?_
  refine At.seq ?_
  refine At.seq ?_
  refine At.region ?_
  refine At.p (some 4) (P_assign rfl rfl) ?_
  refine At.nil ?_
  refine At.next ?_
  refine At.block ?_
  refine At.loopx (I := fun m fr H => ∃ (n : Nat), m = 254 - n ∧ fr = frOf [(0, .agg ((a).map iV).toArray), (1, ptr b1 0), (2, ptr b2 0), (3, ptr b3 0), (4, iV (253 - (n : Int))), (5, .agg ((a).map iV).toArray)] ∧ H = hOf [(1, ⟨true, b1, 0, 44, (a).map iV, 0⟩), (2, ⟨true, b2, 0, 44, (List.replicate 16 (0 : Int)).map iV, 0⟩), (3, ⟨true, b3, 0, 44, ((invG mulR a n)).map iV, 0⟩)] ∧ (n ≤ 254)) ?_ ?_
  · intro Kc0 hKc0
    refine At.to [(0, _), (1, _), (2, _), (3, _), (4, iV (253 - (0 : Int))), (5, _)] [(1, _), (2, _), (3, ⟨true, b3, 0, 44, ((invG mulR a 0)).map iV, 0⟩)] (AllL.cons_ (rfl) (AllL.cons_ (rfl) (AllL.cons_ (rfl) (AllL.cons_ (rfl) (AllL.cons_ (rfl) (AllL.cons_ (rfl) trivial)))))) (AllL.cons_ (rfl) (AllL.cons_ (rfl) (AllL.cons_ ((by rw [invR_zero]; rfl)) trivial))) ?_
    exact hKc0 _ _ _ ⟨0, rfl, rfl, rfl, (by omega)⟩
  · rintro m fr H ⟨n, rfl, rfl, rfl, hn⟩ Kc0 hKc0
    have hil := invR_len ha n
    have hbi := invR_bz ba n
    have hb2 := bz_up hbi
    have hbm := bz_mul hb2 hb2
    refine At.seq ?_
    refine At.seq ?_
    refine At.region ?_
    refine At.p (some 6) (P_move rfl rfl) ?_
    refine At.p (some 7) (P_cmp rfl rfl rfl rfl rfl rfl) ?_
    refine At.nil ?_
    refine At.next ?_
    refine At.cond rfl (fun h7 => ?_) (fun h7 => ?_)
    · -- cond 7 t
      have e7 : (253 - (n : Int)) ≥ 0 := of_decide_eq_true h7
      refine At.skip ?_
      refine At.next ?_
      refine At.seq ?_
      refine At.block ?_
      refine At.seq ?_
      refine At.region ?_
      refine At.q (some 10) (Q_loadA (k := 3) rfl rfl Try.underlying44 rfl sz44 LN rfl) ?_
      refine At.q (some 11) (Q_loadA (k := 3) rfl rfl Try.underlying44 rfl sz44 LN rfl) ?_
      refine At.s (S_callV (some 12) [] [] (vs := [_, _]) rfl en21 rfl V0 (by simp) (r_Mul (a := (invG mulR a n)) (b := (invG mulR a n)) LN LN BR BR) (by rintro _ _ ⟨rfl, rfl⟩; rfl) ?_)
      rintro _ _ ⟨rfl, rfl⟩
      have := mulR_len (invG mulR a n) (invG mulR a n)
      refine At.s (S_storeA none (k := 3) (vs := (mulR (invG mulR a n) (invG mulR a n)).map iV) rfl rfl rfl (by rw [sz44]; exact congrArg some LN) rfl (one_map (fun _ => rfl)) NG rfl LN ?_)
      refine At.nil ?_
      refine At.next ?_
      refine At.seq ?_
      refine At.region ?_
      refine At.p (some 13) (P_move rfl rfl) ?_
      refine At.p (some 14) (P_cmp rfl rfl rfl rfl rfl rfl) ?_
      refine At.p (some 15) (P_move rfl rfl) ?_
      refine At.gsplit (t := 15) (want := true) rfl (fun g1 => ?_) (fun g1 => ?_)
      ·
        have eg1 : (253 - (n : Int)) ≠ 2 := bne_iff_ne.1 g1
        refine At.gy (t := 15) rfl g1 rfl rfl ?_
        refine At.p (some 16) (P_move rfl rfl) ?_
        refine At.gy (t := 15) rfl g1 rfl rfl ?_
        refine At.p (some 17) (P_cmp rfl rfl rfl rfl rfl rfl) ?_
        refine At.p (some 18) (P_pick_t rfl rfl g1 rfl) ?_
        refine At.nil ?_
        refine At.next ?_
        refine At.cond rfl (fun h18 => ?_) (fun h18 => ?_)
        · -- cond 18 t
          have e18 : (253 - (n : Int)) ≠ 4 := bne_iff_ne.1 h18
          refine At.region ?_
          refine At.q (some 19) (Q_loadA (k := 3) rfl rfl Try.underlying44 rfl sz44 LN rfl) ?_
          refine At.q (some 20) (Q_loadA (k := 1) rfl rfl Try.underlying44 rfl sz44 LN rfl) ?_
          refine At.s (S_callV (some 21) [] [] (vs := [_, _]) rfl en21 rfl V0 (by simp) (r_Mul (a := (mulR (invG mulR a n) (invG mulR a n))) (b := a) LN LN BR BR) (by rintro _ _ ⟨rfl, rfl⟩; rfl) ?_)
          rintro _ _ ⟨rfl, rfl⟩
          have := mulR_len (mulR (invG mulR a n) (invG mulR a n)) a
          refine At.s (S_storeA none (k := 3) (vs := (mulR (mulR (invG mulR a n) (invG mulR a n)) a).map iV) rfl rfl rfl (by rw [sz44]; exact congrArg some LN) rfl (one_map (fun _ => rfl)) NG rfl LN ?_)
          refine At.nil ?_
          refine At.inb_n ?_
          refine At.next ?_
          refine At.region ?_
          refine At.p (some 8) (P_move rfl rfl) ?_
          refine At.p (some 9) (P_sub_i rfl rfl rfl (by omega)) ?_
          refine At.p (some 4) (P_assign rfl rfl) ?_
          refine At.nil ?_
          refine At.next ?_
          refine At.to [(0, _), (1, _), (2, _), (3, _), (4, iV (253 - ((n + 1) : Int))), (5, _)] [(1, _), (2, _), (3, ⟨true, b3, 0, 44, ((invG mulR a (n + 1))).map iV, 0⟩)] (AllL.cons_ (rfl) (AllL.cons_ (rfl) (AllL.cons_ (rfl) (AllL.cons_ (rfl) (AllL.cons_ ((congrArg (fun z : Int => some (iV z)) (show (253 - (n : Int) - 1) = 253 - ((n : Int) + 1) by omega))) (AllL.cons_ (rfl) trivial)))))) (AllL.cons_ (rfl) (AllL.cons_ (rfl) (AllL.cons_ ((by rw [invR_f (by omega)]; rfl)) trivial))) ?_
          exact hKc0 _ _ _ (by omega) ⟨n + 1, rfl, rfl, rfl, (by omega)⟩
        · -- cond 18 f
          have e18 : (253 - (n : Int)) = 4 := bne_eq_false_iff_eq.1 h18
          refine At.skip ?_
          refine At.inb_n ?_
          refine At.next ?_
          refine At.region ?_
          refine At.p (some 8) (P_move rfl rfl) ?_
          refine At.p (some 9) (P_sub_i rfl rfl rfl (by omega)) ?_
          refine At.p (some 4) (P_assign rfl rfl) ?_
          refine At.nil ?_
          refine At.next ?_
          refine At.to [(0, _), (1, _), (2, _), (3, _), (4, iV (253 - ((n + 1) : Int))), (5, _)] [(1, _), (2, _), (3, ⟨true, b3, 0, 44, ((invG mulR a (n + 1))).map iV, 0⟩)] (AllL.cons_ (rfl) (AllL.cons_ (rfl) (AllL.cons_ (rfl) (AllL.cons_ (rfl) (AllL.cons_ ((congrArg (fun z : Int => some (iV z)) (show (253 - (n : Int) - 1) = 253 - ((n : Int) + 1) by omega))) (AllL.cons_ (rfl) trivial)))))) (AllL.cons_ (rfl) (AllL.cons_ (rfl) (AllL.cons_ ((by rw [invR_t (by omega)]; rfl)) trivial))) ?_
          exact hKc0 _ _ _ (by omega) ⟨n + 1, rfl, rfl, rfl, (by omega)⟩
      ·
        have eg1 : (253 - (n : Int)) = 2 := bne_eq_false_iff_eq.1 g1
        refine At.gn (some 16) (t := 15) rfl g1 rfl rfl ?_
        refine At.gn (some 17) (t := 15) rfl g1 rfl rfl ?_
        refine At.p (some 18) (P_pick_f rfl rfl g1 rfl) ?_
        refine At.nil ?_
        refine At.next ?_
        refine At.cond rfl (fun h => absurd (h.symm.trans rfl) (by decide)) (fun _ => ?_)
        refine At.skip ?_
        refine At.inb_n ?_
        refine At.next ?_
        refine At.region ?_
        refine At.p (some 8) (P_move rfl rfl) ?_
        refine At.p (some 9) (P_sub_i rfl rfl rfl (by omega)) ?_
        refine At.p (some 4) (P_assign rfl rfl) ?_
        refine At.nil ?_
        refine At.next ?_
        refine At.to [(0, _), (1, _), (2, _), (3, _), (4, iV (253 - ((n + 1) : Int))), (5, _)] [(1, _), (2, _), (3, ⟨true, b3, 0, 44, ((invG mulR a (n + 1))).map iV, 0⟩)] (AllL.cons_ (rfl) (AllL.cons_ (rfl) (AllL.cons_ (rfl) (AllL.cons_ (rfl) (AllL.cons_ ((congrArg (fun z : Int => some (iV z)) (show (253 - (n : Int) - 1) = 253 - ((n : Int) + 1) by omega))) (AllL.cons_ (rfl) trivial)))))) (AllL.cons_ (rfl) (AllL.cons_ (rfl) (AllL.cons_ ((by rw [invR_t (by omega)]; rfl)) trivial))) ?_
        exact hKc0 _ _ _ (by omega) ⟨n + 1, rfl, rfl, rfl, (by omega)⟩
    · -- cond 7 f
      have e7 : ¬ (253 - (n : Int)) ≥ 0 := of_decide_eq_false h7
      refine At.exit ?_
      refine At.thn_e ?_
      refine At.thn_e ?_
      refine At.inb_hit ?_
      refine At.next ?_
      refine At.seq ?_
      obtain rfl : n = 254 := by omega
      have hil := invR_len ha 254
      refine At.region ?_
      refine At.q (some 22) (Q_loadA (k := 3) rfl rfl Try.underlying44 rfl sz44 LN rfl) ?_
      refine At.s (S_storeA none (k := 2) (vs := ((invG mulR a 254)).map iV) rfl rfl rfl (by rw [sz44]; exact congrArg some LN) rfl (one_map (fun _ => rfl)) NG rfl LN ?_)
      refine At.nil ?_
      refine At.next ?_
      refine At.ret ?_
      have hq0 : ((invG mulR a 254)).map iV = (invG mulR a 254).map iV := rfl
      refine At.giveV (.inl rfl) [] (rows' := []) (ResV.cellA (k := 2) rfl rfl Try.underlying44 rfl sz44 LN rfl) rfl (by simp) (by simp) ?_
      exact ⟨congrArg (fun z => Value.agg (List.toArray z)) hq0, rfl⟩

set_option maxHeartbeats 2000000 in
theorem r_unp {b : List (BitVec 8)} (hb : b.length = 32) :
    Con Try.prog 18 [aggK b] [] (fun v rs => v = .agg ((unR b).map iV).toArray ∧ rs = []) := by
  refine Con.enter Try.func18 Try.ntmps18 (Nat.le_of_ble_eq_true rfl) rfl fun w => ?_
  refine At.seq ?_
  refine At.region ?_
  refine At.s (S_box (some 1) 1 (zs := (b).map u8V) rfl rfl rfl (fun b1 => ?_))
  refine At.s (S_alloc (some 2) 2 (zs := (List.replicate 16 (0 : Int)).map iV) rfl ze44 rfl (fun b2 => ?_))
  refine At.nil ?_
  refine At.next ?_
  refine At.seq ?_
  refine At.region ?_
  refine At.s (S_alloc (some 3) 3 (zs := (List.replicate 16 (0 : Int)).map iV) rfl ze44 rfl (fun b3 => ?_))
  refine At.nil ?_
  refine At.next ?_
  refine At.seq ?_
  refine At.seq ?_
  refine At.region ?_
  refine At.p (some 4) (P_assign rfl rfl) ?_
  refine At.nil ?_
  refine At.next ?_
  refine At.block ?_
  refine At.loopx (I := fun m fr H => ∃ (i : Nat), m = 16 - i ∧ fr = frOf [(0, aggK b), (1, ptr b1 0), (2, ptr b2 0), (3, ptr b3 0), (4, iV (i : Int))] ∧ H = hOf [(1, ⟨true, b1, 0, 22, (b).map u8V, 0⟩), (2, ⟨true, b2, 0, 44, (List.replicate 16 (0 : Int)).map iV, 0⟩), (3, ⟨true, b3, 0, 44, ((unI b i)).map iV, 0⟩)] ∧ (i ≤ 16)) ?_ ?_
  · intro Kc0 hKc0
    refine At.to [(0, _), (1, _), (2, _), (3, _), (4, _)] [(1, _), (2, _), (3, ⟨true, b3, 0, 44, ((unI b 0)).map iV, 0⟩)] (AllL.cons_ (rfl) (AllL.cons_ (rfl) (AllL.cons_ (rfl) (AllL.cons_ (rfl) (AllL.cons_ (rfl) trivial))))) (AllL.cons_ (rfl) (AllL.cons_ (rfl) (AllL.cons_ ((by rw [unI_zero]; rfl)) trivial))) ?_
    exact hKc0 _ _ _ ⟨0, rfl, rfl, rfl, (by omega)⟩
  · rintro m fr H ⟨i, rfl, rfl, rfl, hi⟩ Kc0 hKc0
    have hul := unI_len b hi
    have hx1 := (b.getD (2 * i) 0#8).isLt
    have hx2 := (b.getD (2 * i + 1) 0#8).isLt
    refine At.seq ?_
    refine At.seq ?_
    refine At.region ?_
    refine At.p (some 5) (P_move rfl rfl) ?_
    refine At.p (some 6) (P_cmp rfl rfl rfl rfl rfl rfl) ?_
    refine At.nil ?_
    refine At.next ?_
    refine At.cond rfl (fun h6 => ?_) (fun h6 => ?_)
    · -- cond 6 t
      have e6 : (i : Int) < 16 := of_decide_eq_true h6
      refine At.skip ?_
      refine At.next ?_
      refine At.seq ?_
      refine At.block ?_
      refine At.draws 14 [] [.q false [0, 1, 2, 3, 4, 5, 6, 7, 8, 9, 10, 11, 12, 13]] (by kernel_rfl) (by kernel_rfl) ?_
      refine At.wp (some 9) (P_move rfl rfl) ?_
      refine At.wp (some 10) (P_move rfl rfl) ?_
      refine At.wp (some 11) (P_mul_i rfl rfl rfl (by omega)) ?_
      refine At.wp (some 12) (P_indexAddr_arr1 (j := (2 * i)) rfl Try.underlying22 sz5 rfl rfl RO OG) ?_
      refine At.wq (some 13) (Q_loadM (k := 1) (f := u8V) (l := b) (0#8) rfl rfl Try.underlying5 rfl rfl OG) ?_
      refine At.wp (some 14) (P_conv_wi UK.u8 (by decide) rfl Try.underlying5 Try.underlying2 rfl) ?_
      refine At.wp (some 15) (P_move rfl rfl) ?_
      refine At.wp (some 16) (P_mul_i rfl rfl rfl (by omega)) ?_
      refine At.wp (some 17) (P_add_i rfl rfl rfl (by omega)) ?_
      refine At.wp (some 18) (P_indexAddr_arr1 (j := ((2 * i) + 1)) rfl Try.underlying22 sz5 rfl rfl RO OG) ?_
      refine At.wq (some 19) (Q_loadM (k := 1) (f := u8V) (l := b) (0#8) rfl rfl Try.underlying5 rfl rfl OG) ?_
      refine At.wp (some 20) (P_conv_wi UK.u8 (by decide) rfl Try.underlying5 Try.underlying2 rfl) ?_
      refine At.wp (some 21) (P_mul_i rfl rfl rfl (by omega)) ?_
      refine At.wp (some 22) (P_add_i rfl rfl rfl (by omega)) ?_
      refine At.wqn ?_
      refine At.wt rfl ?_
      refine At.p (some 23) (P_indexAddr_arr1 (j := i) rfl Try.underlying44 sz2 rfl rfl RO OG) ?_
      refine At.s (S_storeM none (f := iV) (l := (unI b i)) (u := (((b.getD (2 * i) 0#8).toNat : Int) + (((b.getD ((2 * i) + 1) 0#8).toNat : Int) * 256))) (k := 3) rfl rfl rfl sz2 rfl rfl rfl OG ?_)
      refine At.nil ?_
      refine At.inb_n ?_
      refine At.next ?_
      refine At.region ?_
      refine At.p (some 7) (P_move rfl rfl) ?_
      refine At.p (some 8) (P_add_i rfl rfl rfl (by omega)) ?_
      refine At.p (some 4) (P_assign rfl rfl) ?_
      refine At.nil ?_
      refine At.next ?_
      refine At.to [(0, _), (1, _), (2, _), (3, _), (4, _)] [(1, _), (2, _), (3, ⟨true, b3, 0, 44, ((unI b (i + 1))).map iV, 0⟩)] (AllL.cons_ (rfl) (AllL.cons_ (rfl) (AllL.cons_ (rfl) (AllL.cons_ (rfl) (AllL.cons_ (rfl) trivial))))) (AllL.cons_ (rfl) (AllL.cons_ (rfl) (AllL.cons_ ((by rw [← unI_step (by omega)]; rfl)) trivial))) ?_
      exact hKc0 _ _ _ (by omega) ⟨i + 1, rfl, rfl, rfl, (by omega)⟩
    · -- cond 6 f
      have e6 : ¬ (i : Int) < 16 := of_decide_eq_false h6
      refine At.exit ?_
      refine At.thn_e ?_
      refine At.thn_e ?_
      refine At.inb_hit ?_
      refine At.next ?_
      refine At.seq ?_
      obtain rfl : i = 16 := by omega
      have hul := unI_len b (Nat.le_refl 16)
      have h15 := unR0_15 b
      rw [← unI_all] at h15
      refine At.region ?_
      refine At.p (some 24) (P_indexAddr_arr1 (j := 15) rfl Try.underlying44 sz2 rfl rfl rfl (by decide)) ?_
      refine At.q (some 25) (Q_loadM (k := 3) (f := iV) (l := (unI b 16)) ((0 : Int)) rfl rfl Try.underlying2 rfl rfl OG) ?_
      refine At.p (some 26) (P_rem_i rfl rfl rfl (by omega) (by first | decide | omega)) ?_
      refine At.p (some 27) (P_indexAddr_arr1 (j := 15) rfl Try.underlying44 sz2 rfl rfl rfl (by decide)) ?_
      refine At.s (S_storeM none (f := iV) (l := (unI b 16)) (u := (((unI b 16).getD 15 0) % 32768)) (k := 3) rfl rfl rfl sz2 rfl rfl rfl OG ?_)
      refine At.nil ?_
      refine At.next ?_
      refine At.seq ?_
      refine At.region ?_
      refine At.q (some 28) (Q_loadA (k := 3) rfl rfl Try.underlying44 rfl sz44 LN rfl) ?_
      refine At.s (S_storeA none (k := 2) (vs := (((unI b 16).set 15 (((unI b 16).getD 15 0) % 32768))).map iV) rfl rfl rfl (by rw [sz44]; exact congrArg some LN) rfl (one_map (fun _ => rfl)) NG rfl LN ?_)
      refine At.nil ?_
      refine At.next ?_
      refine At.ret ?_
      have hq0 : (((unI b 16).set 15 (((unI b 16).getD 15 0) % 32768))).map iV = (unR b).map iV := (by rw [unI_end])
      refine At.giveV (.inl rfl) [] (rows' := []) (ResV.cellA (k := 2) rfl rfl Try.underlying44 rfl sz44 LN rfl) rfl (by simp) (by simp) ?_
      exact ⟨congrArg (fun z => Value.agg (List.toArray z)) hq0, rfl⟩

set_option maxHeartbeats 2000000 in
theorem r_pack {a : List Int} (ha : a.length = 16) (ba : BZ 131072 a) :
    Con Try.prog 22 [.agg ((a).map iV).toArray] [] (fun v rs => v = aggK (packN (valZ a % pZ).toNat) ∧ rs = []) := by
  refine Con.enter Try.func22 Try.ntmps22 (Nat.le_of_ble_eq_true rfl) rfl fun w => ?_
  refine At.seq ?_
  refine At.region ?_
  refine At.s (S_box (some 1) 1 (zs := (a).map iV) rfl rfl rfl (fun b1 => ?_))
  refine At.s (S_alloc (some 2) 2 (zs := (List.replicate 32 0#8).map u8V) rfl ze22 rfl (fun b2 => ?_))
  refine At.nil ?_
  refine At.next ?_
  refine At.seq ?_
  obtain ⟨V, hV, eV, mV⟩ := carry3 ha ba
  obtain ⟨q1, q2⟩ := c3_q ha ba
  refine At.region ?_
  refine At.q (some 10) (Q_loadA (k := 1) rfl rfl Try.underlying44 rfl sz44 LN rfl) ?_
  refine At.s (S_callV (some 11) [] [] (vs := [_]) rfl en29 rfl V0 (by simp) (r_carry (a := a) LN (BZ.mono (by first | assumption | exact BR) (by decide))) (by rintro _ _ ⟨rfl, rfl⟩; rfl) ?_)
  rintro _ _ ⟨rfl, rfl⟩
  have := cR_len (valZ a)
  refine At.s (S_callV (some 12) [] [] (vs := [_]) rfl en29 rfl V0 (by simp) (r_carry (a := (cR (valZ a))) LN (BZ.mono (by first | assumption | exact BR) (by decide))) (by rintro _ _ ⟨rfl, rfl⟩; rfl) ?_)
  rintro _ _ ⟨rfl, rfl⟩
  have := cR_len (valZ (cR (valZ a)))
  refine At.s (S_callV (some 13) [] [] (vs := [_]) rfl en29 rfl V0 (by simp) (r_carry (a := (cR (valZ (cR (valZ a))))) LN (BZ.mono (by first | assumption | exact BR) (by decide))) (by rintro _ _ ⟨rfl, rfl⟩; rfl) ?_)
  rintro _ _ ⟨rfl, rfl⟩
  have := cR_len (valZ (cR (valZ (cR (valZ a)))))
  simp only [eV]
  have hvl := zgs_len V 16
  refine At.s (S_alloc (some 3) 3 (zs := (List.replicate 16 (0 : Int)).map iV) rfl ze44 rfl (fun b3 => ?_))
  refine At.s (S_storeA none (k := 3) (vs := ((zgs V 16)).map iV) rfl rfl rfl (by rw [sz44]; exact congrArg some LN) rfl (one_map (fun _ => rfl)) NG rfl LN ?_)
  refine At.nil ?_
  refine At.next ?_
  refine At.seq ?_
  refine At.seq ?_
  refine At.region ?_
  refine At.p (some 4) (P_assign rfl rfl) ?_
  refine At.nil ?_
  refine At.next ?_
  refine At.block ?_
  refine At.loopx (I := fun m fr H => ∃ (r : Nat), m = 2 - r ∧ fr = frOf [(0, .agg ((a).map iV).toArray), (1, ptr b1 0), (2, ptr b2 0), (3, ptr b3 0), (4, iV (r : Int)), (10, .agg ((a).map iV).toArray), (11, .agg ((cR (valZ a)).map iV).toArray), (12, .agg ((cR (valZ (cR (valZ a)))).map iV).toArray), (13, .agg (((zgs V 16)).map iV).toArray)] ∧ H = hOf [(1, ⟨true, b1, 0, 44, (a).map iV, 0⟩), (2, ⟨true, b2, 0, 22, (List.replicate 32 0#8).map u8V, 0⟩), (3, ⟨true, b3, 0, 44, ((zgs (vR V r) 16)).map iV, 0⟩)] ∧ (r ≤ 2)) ?_ ?_
  · intro Kc0 hKc0
    refine At.to [(0, _), (1, _), (2, _), (3, _), (4, _), (10, _), (11, _), (12, _), (13, _)] [(1, _), (2, _), (3, ⟨true, b3, 0, 44, ((zgs (vR V 0) 16)).map iV, 0⟩)] (AllL.cons_ (rfl) (AllL.cons_ (rfl) (AllL.cons_ (rfl) (AllL.cons_ (rfl) (AllL.cons_ (rfl) (AllL.cons_ (rfl) (AllL.cons_ (rfl) (AllL.cons_ (rfl) (AllL.cons_ (rfl) trivial))))))))) (AllL.cons_ (rfl) (AllL.cons_ (rfl) (AllL.cons_ (rfl) trivial))) ?_
    exact hKc0 _ _ _ ⟨0, rfl, rfl, rfl, (by omega)⟩
  · rintro m fr H ⟨r, rfl, rfl, rfl, hr⟩ Kc0 hKc0
    have hwl := zgs_len (vR V r) 16
    have hdz := dz_zgs (vR V r)
    have hd0 := hdz.2 0 (by decide)
    refine At.seq ?_
    refine At.seq ?_
    refine At.region ?_
    refine At.p (some 14) (P_move rfl rfl) ?_
    refine At.p (some 15) (P_cmp rfl rfl rfl rfl rfl rfl) ?_
    refine At.nil ?_
    refine At.next ?_
    refine At.cond rfl (fun h15 => ?_) (fun h15 => ?_)
    · -- cond 15 t
      have e15 : (r : Int) < 2 := of_decide_eq_true h15
      refine At.skip ?_
      refine At.next ?_
      refine At.seq ?_
      refine At.block ?_
      refine At.seq ?_
      refine At.region ?_
      refine At.s (S_alloc (some 5) 5 (zs := (List.replicate 16 (0 : Int)).map iV) rfl ze44 rfl (fun b5 => ?_))
      refine At.nil ?_
      refine At.next ?_
      refine At.seq ?_
      refine At.region ?_
      refine At.p (some 18) (P_indexAddr_arr1 (j := 0) rfl Try.underlying44 sz2 rfl rfl rfl (by decide)) ?_
      refine At.q (some 19) (Q_loadM (k := 3) (f := iV) (l := (zgs (vR V r) 16)) ((0 : Int)) rfl rfl Try.underlying2 rfl rfl OG) ?_
      refine At.p (some 20) (P_sub_i rfl rfl rfl (by omega)) ?_
      refine At.p (some 21) (P_indexAddr_arr1 (j := 0) rfl Try.underlying44 sz2 rfl rfl rfl (by decide)) ?_
      refine At.s (S_storeM none (f := iV) (l := (List.replicate 16 (0 : Int))) (u := (((zgs (vR V r) 16).getD 0 0) - 65517)) (k := 5) rfl rfl rfl sz2 rfl rfl rfl OG ?_)
      refine At.nil ?_
      refine At.next ?_
      refine At.seq ?_
      refine At.seq ?_
      refine At.region ?_
      refine At.p (some 6) (P_assign rfl rfl) ?_
      refine At.nil ?_
      refine At.next ?_
      refine At.block ?_
      refine At.loopx (I := fun m fr H => ∃ (i : Nat), m = 15 - i ∧ fr = frOf [(0, .agg ((a).map iV).toArray), (1, ptr b1 0), (2, ptr b2 0), (3, ptr b3 0), (4, iV (r : Int)), (5, ptr b5 0), (6, iV (i : Int)), (10, .agg ((a).map iV).toArray), (11, .agg ((cR (valZ a)).map iV).toArray), (12, .agg ((cR (valZ (cR (valZ a)))).map iV).toArray), (13, .agg (((zgs V 16)).map iV).toArray), (14, iV (r : Int)), (15, .bool (decide ((r : Int) < 2))), (18, ptr b3 0), (19, iV ((zgs (vR V r) 16).getD 0 0)), (20, iV (((zgs (vR V r) 16).getD 0 0) - 65517)), (21, ptr b5 0)] ∧ H = hOf [(1, ⟨true, b1, 0, 44, (a).map iV, 0⟩), (2, ⟨true, b2, 0, 22, (List.replicate 32 0#8).map u8V, 0⟩), (3, ⟨true, b3, 0, 44, ((zgs (vR V r) 16)).map iV, 0⟩), (5, ⟨true, b5, 0, 44, ((pSt (zgs (vR V r) 16) i)).map iV, 0⟩)] ∧ (1 ≤ i ∧ i ≤ 15)) ?_ ?_
      · intro Kc1 hKc1
        refine At.to [(0, _), (1, _), (2, _), (3, _), (4, _), (5, _), (6, _), (10, _), (11, _), (12, _), (13, _), (14, _), (15, _), (18, _), (19, _), (20, _), (21, _)] [(1, _), (2, _), (3, _), (5, ⟨true, b5, 0, 44, ((pSt (zgs (vR V r) 16) 1)).map iV, 0⟩)] (AllL.cons_ (rfl) (AllL.cons_ (rfl) (AllL.cons_ (rfl) (AllL.cons_ (rfl) (AllL.cons_ (rfl) (AllL.cons_ (rfl) (AllL.cons_ (rfl) (AllL.cons_ (rfl) (AllL.cons_ (rfl) (AllL.cons_ (rfl) (AllL.cons_ (rfl) (AllL.cons_ (rfl) (AllL.cons_ (rfl) (AllL.cons_ (rfl) (AllL.cons_ (rfl) (AllL.cons_ (rfl) (AllL.cons_ (rfl) trivial))))))))))))))))) (AllL.cons_ (rfl) (AllL.cons_ (rfl) (AllL.cons_ (rfl) (AllL.cons_ ((by rw [← pSt_one hdz]; rfl)) trivial)))) ?_
        exact hKc1 _ _ _ ⟨1, rfl, rfl, rfl, (by omega)⟩
      · rintro m fr H ⟨i, rfl, rfl, rfl, hi⟩ Kc1 hKc1
        have hpl := pSt_len (t := (zgs (vR V r) 16)) hi.1 (by omega)
        have hdi := hdz.2 i (by omega)
        have hux := uX_bd hdz (i := i - 1) (by omega)
        have huy := uX_bd hdz (i := i) (by omega)
        have hun := uX_next hdz (i := i - 1) (by omega)
        rw [show i - 1 + 1 = i by omega] at hun
        refine At.seq ?_
        refine At.seq ?_
        refine At.region ?_
        refine At.p (some 22) (P_move rfl rfl) ?_
        refine At.p (some 23) (P_cmp rfl rfl rfl rfl rfl rfl) ?_
        refine At.nil ?_
        refine At.next ?_
        refine At.cond rfl (fun h23 => ?_) (fun h23 => ?_)
        · -- cond 23 t
          have e23 : (i : Int) < 15 := of_decide_eq_true h23
          have hpm := pD_mid i (by omega) (by omega)
          refine At.skip ?_
          refine At.next ?_
          refine At.seq ?_
          refine At.block ?_
          refine At.seq ?_
          refine At.draws 12 [] [.q false [0, 1, 2, 3, 4, 5, 6, 7, 8, 9, 10, 11]] (by kernel_rfl) (by kernel_rfl) ?_
          refine At.wp (some 26) (P_move rfl rfl) ?_
          refine At.wp (some 27) (P_move rfl rfl) ?_
          refine At.wp (some 28) (P_indexAddr_arr1 (j := i) rfl Try.underlying44 sz2 rfl rfl RO OG) ?_
          refine At.wq (some 29) (Q_loadM (k := 3) (f := iV) (l := (zgs (vR V r) 16)) ((0 : Int)) rfl rfl Try.underlying2 rfl rfl OG) ?_
          refine At.wp (some 30) (P_sub_i rfl rfl rfl (by omega)) ?_
          refine At.wp (some 31) (P_move rfl rfl) ?_
          refine At.wp (some 32) (P_sub_i rfl rfl rfl (by omega)) ?_
          refine At.wp (some 33) (P_indexAddr_arr1 (j := (i - 1)) rfl Try.underlying44 sz2 rfl rfl RO OG) ?_
          refine At.wq (some 34) (Q_loadM (k := 5) (f := iV) (l := (pSt (zgs (vR V r) 16) i)) ((0 : Int)) rfl rfl Try.underlying2 rfl rfl OG) ?_
          have q34 : (((pSt (zgs (vR V r) 16) i).getD (i - 1) 0) : Int) = (uX (zgs (vR V r) 16) (i - 1)) := pSt_at
          simp only [q34]
          refine At.wp (some 35) (P_shr_c (c := 65536) rfl rfl rfl (by decide) (by decide) (by rfl)) ?_
          refine At.wp (some 36) (P_and_c 1 (by decide) (b := 1) (c := 2) rfl rfl rfl rfl rfl) ?_
          refine At.wp (some 37) (P_sub_i rfl rfl rfl (by omega)) ?_
          have q37 : (((((zgs (vR V r) 16).getD i 0) - 65535) - (((uX (zgs (vR V r) 16) (i - 1)) / 65536) % 2)) : Int) = (uX (zgs (vR V r) 16) i) := (by omega)
          simp only [q37]
          refine At.wqn ?_
          refine At.wt rfl ?_
          refine At.p (some 38) (P_indexAddr_arr1 (j := i) rfl Try.underlying44 sz2 rfl rfl RO OG) ?_
          refine At.s (S_storeM none (f := iV) (l := (pSt (zgs (vR V r) 16) i)) (u := (uX (zgs (vR V r) 16) i)) (k := 5) rfl rfl rfl sz2 rfl rfl rfl OG ?_)
          refine At.nil ?_
          refine At.next ?_
          refine At.region ?_
          refine At.p (some 39) (P_move rfl rfl) ?_
          refine At.p (some 40) (P_sub_i rfl rfl rfl (by omega)) ?_
          refine At.p (some 41) (P_move rfl rfl) ?_
          refine At.p (some 42) (P_sub_i rfl rfl rfl (by omega)) ?_
          refine At.p (some 43) (P_indexAddr_arr1 (j := (i - 1)) rfl Try.underlying44 sz2 rfl rfl RO OG) ?_
          refine At.q (some 44) (Q_loadM (k := 5) (f := iV) (l := ((pSt (zgs (vR V r) 16) i).set i (uX (zgs (vR V r) 16) i))) ((0 : Int)) rfl rfl Try.underlying2 rfl rfl OG) ?_
          have q44 : ((((pSt (zgs (vR V r) 16) i).set i (uX (zgs (vR V r) 16) i)).getD (i - 1) 0) : Int) = (uX (zgs (vR V r) 16) (i - 1)) := pSt_at2 hi.1 (by omega)
          simp only [q44]
          refine At.p (some 45) (P_and_c 16 (by decide) (b := 65535) (c := 65536) rfl rfl rfl rfl rfl) ?_
          refine At.p (some 46) (P_indexAddr_arr1 (j := (i - 1)) rfl Try.underlying44 sz2 rfl rfl RO OG) ?_
          refine At.s (S_storeM none (f := iV) (l := ((pSt (zgs (vR V r) 16) i).set i (uX (zgs (vR V r) 16) i))) (u := ((uX (zgs (vR V r) 16) (i - 1)) % 65536)) (k := 5) rfl rfl rfl sz2 rfl rfl rfl OG ?_)
          refine At.nil ?_
          refine At.inb_n ?_
          refine At.next ?_
          refine At.region ?_
          refine At.p (some 24) (P_move rfl rfl) ?_
          refine At.p (some 25) (P_add_i rfl rfl rfl (by omega)) ?_
          refine At.p (some 6) (P_assign rfl rfl) ?_
          refine At.nil ?_
          refine At.next ?_
          refine At.to [(0, _), (1, _), (2, _), (3, _), (4, _), (5, _), (6, _), (10, _), (11, _), (12, _), (13, _), (14, _), (15, _), (18, _), (19, _), (20, _), (21, _)] [(1, _), (2, _), (3, _), (5, ⟨true, b5, 0, 44, ((pSt (zgs (vR V r) 16) (i + 1))).map iV, 0⟩)] (AllL.cons_ (rfl) (AllL.cons_ (rfl) (AllL.cons_ (rfl) (AllL.cons_ (rfl) (AllL.cons_ (rfl) (AllL.cons_ (rfl) (AllL.cons_ (rfl) (AllL.cons_ (rfl) (AllL.cons_ (rfl) (AllL.cons_ (rfl) (AllL.cons_ (rfl) (AllL.cons_ (rfl) (AllL.cons_ (rfl) (AllL.cons_ (rfl) (AllL.cons_ (rfl) (AllL.cons_ (rfl) (AllL.cons_ (rfl) trivial))))))))))))))))) (AllL.cons_ (rfl) (AllL.cons_ (rfl) (AllL.cons_ (rfl) (AllL.cons_ ((by rw [← pSt_step hdz (by omega) (by omega)]; rfl)) trivial)))) ?_
          exact hKc1 _ _ _ (by omega) ⟨i + 1, rfl, rfl, rfl, (by omega)⟩
        · -- cond 23 f
          have e23 : ¬ (i : Int) < 15 := of_decide_eq_false h23
          refine At.exit ?_
          refine At.thn_e ?_
          refine At.thn_e ?_
          refine At.inb_hit ?_
          refine At.next ?_
          refine At.seq ?_
          obtain rfl : i = 15 := by omega
          have h15 : (uX (zgs (vR V r) 16) 15) = (zgs (vR V r) 16).getD 15 0 - pD.getD 15 0 - (uX (zgs (vR V r) 16) 14) / 65536 % 2 := uX_next hdz (i := 14) (by decide)
          have hp15 : pD.getD 15 0 = 32767 := rfl
          have hd15 := hdz.2 15 (by decide)
          have hu14 := uX_bd hdz (i := 14) (by decide)
          have hu15 := uX_bd hdz (i := 15) (by decide)
          refine At.region ?_
          refine At.p (some 47) (P_indexAddr_arr1 (j := 15) rfl Try.underlying44 sz2 rfl rfl rfl (by decide)) ?_
          refine At.q (some 48) (Q_loadM (k := 3) (f := iV) (l := (zgs (vR V r) 16)) ((0 : Int)) rfl rfl Try.underlying2 rfl rfl OG) ?_
          refine At.p (some 49) (P_sub_i rfl rfl rfl (by omega)) ?_
          refine At.p (some 50) (P_indexAddr_arr1 (j := 14) rfl Try.underlying44 sz2 rfl rfl rfl (by decide)) ?_
          refine At.q (some 51) (Q_loadM (k := 5) (f := iV) (l := (pSt (zgs (vR V r) 16) 15)) ((0 : Int)) rfl rfl Try.underlying2 rfl rfl OG) ?_
          have q51 : (((pSt (zgs (vR V r) 16) 15).getD 14 0) : Int) = (uX (zgs (vR V r) 16) 14) := pSt_at (i := 15)
          simp only [q51]
          refine At.p (some 52) (P_shr_c (c := 65536) rfl rfl rfl (by decide) (by decide) (by rfl)) ?_
          refine At.p (some 53) (P_and_c 1 (by decide) (b := 1) (c := 2) rfl rfl rfl rfl rfl) ?_
          refine At.p (some 54) (P_sub_i rfl rfl rfl (by omega)) ?_
          have q54 : (((((zgs (vR V r) 16).getD 15 0) - 32767) - (((uX (zgs (vR V r) 16) 14) / 65536) % 2)) : Int) = (uX (zgs (vR V r) 16) 15) := (by omega)
          simp only [q54]
          refine At.p (some 55) (P_indexAddr_arr1 (j := 15) rfl Try.underlying44 sz2 rfl rfl rfl (by decide)) ?_
          refine At.s (S_storeM none (f := iV) (l := (pSt (zgs (vR V r) 16) 15)) (u := (uX (zgs (vR V r) 16) 15)) (k := 5) rfl rfl rfl sz2 rfl rfl rfl OG ?_)
          refine At.nil ?_
          refine At.next ?_
          refine At.seq ?_
          refine At.region ?_
          refine At.p (some 56) (P_indexAddr_arr1 (j := 15) rfl Try.underlying44 sz2 rfl rfl rfl (by decide)) ?_
          refine At.q (some 57) (Q_loadM (k := 5) (f := iV) (l := ((pSt (zgs (vR V r) 16) 15).set 15 (uX (zgs (vR V r) 16) 15))) ((0 : Int)) rfl rfl Try.underlying2 rfl rfl OG) ?_
          have q57 : ((((pSt (zgs (vR V r) 16) 15).set 15 (uX (zgs (vR V r) 16) 15)).getD 15 0) : Int) = (uX (zgs (vR V r) 16) 15) := set_get (by omega)
          simp only [q57]
          refine At.p (some 58) (P_shr_c (c := 65536) rfl rfl rfl (by decide) (by decide) (by rfl)) ?_
          refine At.p (some 59) (P_and_c 1 (by decide) (b := 1) (c := 2) rfl rfl rfl rfl rfl) ?_
          refine At.p (some 60) (P_cmp rfl rfl rfl rfl rfl rfl) ?_
          refine At.p (some 7) (P_assign rfl rfl) ?_
          refine At.nil ?_
          refine At.next ?_
          refine At.seq ?_
          refine At.region ?_
          refine At.p (some 61) (P_indexAddr_arr1 (j := 14) rfl Try.underlying44 sz2 rfl rfl rfl (by decide)) ?_
          refine At.q (some 62) (Q_loadM (k := 5) (f := iV) (l := ((pSt (zgs (vR V r) 16) 15).set 15 (uX (zgs (vR V r) 16) 15))) ((0 : Int)) rfl rfl Try.underlying2 rfl rfl OG) ?_
          have q62 : ((((pSt (zgs (vR V r) 16) 15).set 15 (uX (zgs (vR V r) 16) 15)).getD 14 0) : Int) = (uX (zgs (vR V r) 16) 14) := pSt_at2 (i := 15) (by decide) (by decide)
          simp only [q62]
          refine At.p (some 63) (P_and_c 16 (by decide) (b := 65535) (c := 65536) rfl rfl rfl rfl rfl) ?_
          refine At.p (some 64) (P_indexAddr_arr1 (j := 14) rfl Try.underlying44 sz2 rfl rfl rfl (by decide)) ?_
          refine At.s (S_storeM none (f := iV) (l := ((pSt (zgs (vR V r) 16) 15).set 15 (uX (zgs (vR V r) 16) 15))) (u := ((uX (zgs (vR V r) 16) 14) % 65536)) (k := 5) rfl rfl rfl sz2 rfl rfl rfl OG ?_)
          refine At.nil ?_
          refine At.next ?_
          refine At.seq ?_
          refine At.region ?_
          refine At.p (some 65) (P_move rfl rfl) ?_
          refine At.p (some 66) (P_not rfl rfl) ?_
          refine At.nil ?_
          refine At.next ?_
          refine At.cond rfl (fun h66 => ?_) (fun h66 => ?_)
          · -- cond 66 t
            have e66 : (((uX (zgs (vR V r) 16) 15) / 65536) % 2) ≠ 1 := beq_eq_false_iff_ne.1 (by first | (simp; done) | simpa using h66)
            refine At.region ?_
            refine At.q (some 67) (Q_loadA (k := 5) rfl rfl Try.underlying44 rfl sz44 LN rfl) ?_
            refine At.s (S_storeA none (k := 3) (vs := ((((pSt (zgs (vR V r) 16) 15).set 15 (uX (zgs (vR V r) 16) 15)).set 14 ((uX (zgs (vR V r) 16) 14) % 65536))).map iV) rfl rfl rfl (by rw [sz44]; exact congrArg some LN) rfl (one_map (fun _ => rfl)) NG rfl LN ?_)
            refine At.nil ?_
            refine At.inb_n ?_
            refine At.next ?_
            refine At.region ?_
            refine At.p (some 16) (P_move rfl rfl) ?_
            refine At.p (some 17) (P_add_i rfl rfl rfl (by omega)) ?_
            refine At.p (some 4) (P_assign rfl rfl) ?_
            refine At.nil ?_
            refine At.next ?_
            refine At.to [(0, _), (1, _), (2, _), (3, _), (4, _), (10, _), (11, _), (12, _), (13, _)] [(1, _), (2, _), (3, ⟨true, b3, 0, 44, ((zgs (vR V (r + 1)) 16)).map iV, 0⟩)] (AllL.cons_ (rfl) (AllL.cons_ (rfl) (AllL.cons_ (rfl) (AllL.cons_ (rfl) (AllL.cons_ (rfl) (AllL.cons_ (rfl) (AllL.cons_ (rfl) (AllL.cons_ (rfl) (AllL.cons_ (rfl) trivial))))))))) (AllL.cons_ (rfl) (AllL.cons_ (rfl) (AllL.cons_ ((by rw [← vR_high hV e66, ← pSt_step hdz (i := 15) (by decide) (by decide)]; rfl)) trivial))) ?_
            exact hKc0 _ _ _ (by omega) ⟨r + 1, rfl, rfl, rfl, (by omega)⟩
          · -- cond 66 f
            have e66 : (((uX (zgs (vR V r) 16) 15) / 65536) % 2) = 1 := eq_of_beq (by first | (simp; done) | simpa using h66)
            refine At.skip ?_
            refine At.inb_n ?_
            refine At.next ?_
            refine At.region ?_
            refine At.p (some 16) (P_move rfl rfl) ?_
            refine At.p (some 17) (P_add_i rfl rfl rfl (by omega)) ?_
            refine At.p (some 4) (P_assign rfl rfl) ?_
            refine At.nil ?_
            refine At.next ?_
            refine At.to [(0, _), (1, _), (2, _), (3, _), (4, _), (10, _), (11, _), (12, _), (13, _)] [(1, _), (2, _), (3, ⟨true, b3, 0, 44, ((zgs (vR V (r + 1)) 16)).map iV, 0⟩)] (AllL.cons_ (rfl) (AllL.cons_ (rfl) (AllL.cons_ (rfl) (AllL.cons_ (rfl) (AllL.cons_ (rfl) (AllL.cons_ (rfl) (AllL.cons_ (rfl) (AllL.cons_ (rfl) (AllL.cons_ (rfl) trivial))))))))) (AllL.cons_ (rfl) (AllL.cons_ (rfl) (AllL.cons_ ((by rw [← vR_low hV e66]; rfl)) trivial))) ?_
            exact hKc0 _ _ _ (by omega) ⟨r + 1, rfl, rfl, rfl, (by omega)⟩
    · -- cond 15 f
      have e15 : ¬ (r : Int) < 2 := of_decide_eq_false h15
      refine At.exit ?_
      refine At.thn_e ?_
      refine At.thn_e ?_
      refine At.inb_hit ?_
      refine At.next ?_
      refine At.seq ?_
      obtain rfl : r = 2 := by omega
      have hv2 := vR_bd hV 2
      refine At.region ?_
      refine At.s (S_alloc (some 8) 8 (zs := (List.replicate 32 0#8).map u8V) rfl ze22 rfl (fun b8 => ?_))
      refine At.nil ?_
      refine At.next ?_
      refine At.seq ?_
      refine At.seq ?_
      refine At.region ?_
      refine At.p (some 9) (P_assign rfl rfl) ?_
      refine At.nil ?_
      refine At.next ?_
      refine At.block ?_
      refine At.loopx (I := fun m fr H => ∃ (i : Nat), m = 16 - i ∧ fr = frOf [(2, ptr b2 0), (3, ptr b3 0), (8, ptr b8 0), (9, iV (i : Int))] ∧ H = hOf [(2, ⟨true, b2, 0, 22, (List.replicate 32 0#8).map u8V, 0⟩), (3, ⟨true, b3, 0, 44, ((zgs (vR V 2) 16)).map iV, 0⟩), (8, ⟨true, b8, 0, 22, ((obI (vR V 2).toNat i)).map u8V, 0⟩)] ∧ (i ≤ 16)) ?_ ?_
      · intro Kc2 hKc2
        refine At.to [(2, _), (3, _), (8, _), (9, _)] [(2, _), (3, _), (8, ⟨true, b8, 0, 22, ((obI (vR V 2).toNat 0)).map u8V, 0⟩)] (AllL.cons_ (rfl) (AllL.cons_ (rfl) (AllL.cons_ (rfl) (AllL.cons_ (rfl) trivial)))) (AllL.cons_ (rfl) (AllL.cons_ (rfl) (AllL.cons_ ((by rw [obI_zero]; rfl)) trivial))) ?_
        exact hKc2 _ _ _ ⟨0, rfl, rfl, rfl, (by omega)⟩
      · rintro m fr H ⟨i, rfl, rfl, rfl, hi⟩ Kc2 hKc2
        have hol := obI_len (vR V 2).toNat hi
        have hzl := zgs_len (vR V 2) 16
        refine At.seq ?_
        refine At.seq ?_
        refine At.region ?_
        refine At.p (some 68) (P_move rfl rfl) ?_
        refine At.p (some 69) (P_cmp rfl rfl rfl rfl rfl rfl) ?_
        refine At.nil ?_
        refine At.next ?_
        refine At.cond rfl (fun h69 => ?_) (fun h69 => ?_)
        · -- cond 69 t
          have e69 : (i : Int) < 16 := of_decide_eq_true h69
          refine At.skip ?_
          refine At.next ?_
          refine At.seq ?_
          refine At.block ?_
          refine At.bBruteG [15, 17] (fun fr H => fr = frOf [(2, ptr b2 0), (3, ptr b3 0), (8, ptr b8 0), (9, iV (i : Int))] ∧ H = hOf [(2, ⟨true, b2, 0, 22, (List.replicate 32 0#8).map u8V, 0⟩), (3, ⟨true, b3, 0, 44, ((zgs (vR V 2) 16)).map iV, 0⟩), (8, ⟨true, b8, 0, 22, ((((obI (vR V 2).toNat i).set (2 * i) (BitVec.ofInt 8 ((zgs (vR V 2) 16).getD i 0))).set ((2 * i) + 1) (BitVec.ofInt 8 (((zgs (vR V 2) 16).getD i 0) / 256)))).map u8V, 0⟩)] ∧ True) (by kernel_rfl) ?_ ?_
          · intro Kb hKb G hGi hGo
            have hG21_0  : G 0 #[true, true, true, true, true, true, true, true, true, true, true, true, true, true, true, true, true, true] (frOf [(2, ptr b2 0), (3, ptr b3 0), (8, ptr b8 0), (9, iV (i : Int))]) (hOf [(2, ⟨true, b2, 0, 22, (List.replicate 32 0#8).map u8V, 0⟩), (3, ⟨true, b3, 0, 44, ((zgs (vR V 2) 16)).map iV, 0⟩), (8, ⟨true, b8, 0, 22, ((((obI (vR V 2).toNat i).set (2 * i) (BitVec.ofInt 8 ((zgs (vR V 2) 16).getD i 0))).set ((2 * i) + 1) (BitVec.ofInt 8 (((zgs (vR V 2) 16).getD i 0) / 256)))).map u8V, 0⟩)]) := by
              refine hGo ?_
              refine At.bEnd (by kernel_rfl) ?_
              refine At.next ?_
              exact hKb _ _ ⟨rfl, rfl, trivial⟩
            have hG21_1  : G 1 #[true, true, true, true, true, true, true, true, true, true, true, true, true, true, true, true, true, false] (frOf [(2, ptr b2 0), (3, ptr b3 0), (8, ptr b8 0), (9, iV (i : Int)), (85, u8V (BitVec.ofInt 8 (((zgs (vR V 2) 16).getD i 0) / 256))), (87, ptr b8 ((2 * i) + 1))]) (hOf [(2, ⟨true, b2, 0, 22, (List.replicate 32 0#8).map u8V, 0⟩), (3, ⟨true, b3, 0, 44, ((zgs (vR V 2) 16)).map iV, 0⟩), (8, ⟨true, b8, 0, 22, (((obI (vR V 2).toNat i).set (2 * i) (BitVec.ofInt 8 ((zgs (vR V 2) 16).getD i 0)))).map u8V, 0⟩)]) := by
              refine hGo ?_
              refine At.bStep [17] (by kernel_rfl) (by simp) ?_
              refine At.bS true (by kernel_rfl) (S_storeM none (f := u8V) (l := ((obI (vR V 2).toNat i).set (2 * i) (BitVec.ofInt 8 ((zgs (vR V 2) 16).getD i 0)))) (u := (BitVec.ofInt 8 (((zgs (vR V 2) 16).getD i 0) / 256))) (k := 8) rfl rfl rfl sz5 rfl rfl rfl OG ?_)
              exact At.into (hGi (hG21_0 )) rfl rfl
            have hG21_2  : G 3 #[true, true, true, true, true, true, true, true, true, true, true, true, true, true, true, false, false, false] (frOf [(2, ptr b2 0), (3, ptr b3 0), (8, ptr b8 0), (9, iV (i : Int)), (76, iV ((2 * (i : Int)) + 1)), (80, u8V (BitVec.ofInt 8 ((zgs (vR V 2) 16).getD i 0))), (85, u8V (BitVec.ofInt 8 (((zgs (vR V 2) 16).getD i 0) / 256))), (86, ptr b8 (2 * i))]) (hOf [(2, ⟨true, b2, 0, 22, (List.replicate 32 0#8).map u8V, 0⟩), (3, ⟨true, b3, 0, 44, ((zgs (vR V 2) 16)).map iV, 0⟩), (8, ⟨true, b8, 0, 22, ((obI (vR V 2).toNat i)).map u8V, 0⟩)]) := by
              refine hGo ?_
              refine At.bStep [15] (by kernel_rfl) (by simp) ?_
              refine At.bS true (by kernel_rfl) (S_storeM none (f := u8V) (l := (obI (vR V 2).toNat i)) (u := (BitVec.ofInt 8 ((zgs (vR V 2) 16).getD i 0))) (k := 8) rfl rfl rfl sz5 rfl rfl rfl OG ?_)
              refine At.bP  16 (some 87) (P_indexAddr_arr1 (j := ((2 * i) + 1)) rfl Try.underlying22 sz5 rfl rfl RO OG) (by kernel_rfl) (by kernel_rfl) ?_
              exact At.into (hGi (hG21_1 )) rfl rfl
            have hG21_3  : G 6 #[true, true, true, true, true, true, true, true, true, true, true, false, false, false, true, false, false, false] (frOf [(2, ptr b2 0), (3, ptr b3 0), (8, ptr b8 0), (9, iV (i : Int)), (76, iV ((2 * (i : Int)) + 1)), (80, u8V (BitVec.ofInt 8 ((zgs (vR V 2) 16).getD i 0))), (82, ptr b3 i), (86, ptr b8 (2 * i))]) (hOf [(2, ⟨true, b2, 0, 22, (List.replicate 32 0#8).map u8V, 0⟩), (3, ⟨true, b3, 0, 44, ((zgs (vR V 2) 16)).map iV, 0⟩), (8, ⟨true, b8, 0, 22, ((obI (vR V 2).toNat i)).map u8V, 0⟩)]) := by
              refine hGo ?_
              refine At.bStep [11, 15] (by kernel_rfl) (by simp) ?_
              refine ⟨?_, ?_⟩
              ·
                refine At.bSQ (some 83) (Q_loadM (k := 3) (f := iV) (l := (zgs (vR V 2) 16)) ((0 : Int)) rfl rfl Try.underlying2 rfl rfl OG) ?_
                refine At.bP  12 (some 84) (P_shr_c (c := 256) rfl rfl rfl (by decide) (by decide) (by rfl)) (by kernel_rfl) (by kernel_rfl) ?_
                refine At.bP  13 (some 85) (P_conv_iw UK.u8 rfl Try.underlying2 Try.underlying5 rfl) (by kernel_rfl) (by kernel_rfl) ?_
                exact At.into (hGi (hG21_2 )) rfl rfl
              ·
                refine At.bS true (by kernel_rfl) (S_storeM none (f := u8V) (l := (obI (vR V 2).toNat i)) (u := (BitVec.ofInt 8 ((zgs (vR V 2) 16).getD i 0))) (k := 8) rfl rfl rfl sz5 rfl rfl rfl OG ?_)
                refine At.bQ  11 (some 83) (Q_loadM (k := 3) (f := iV) (l := (zgs (vR V 2) 16)) ((0 : Int)) rfl rfl Try.underlying2 rfl rfl OG) (by kernel_rfl) (by kernel_rfl) ?_
                refine At.bP  12 (some 84) (P_shr_c (c := 256) rfl rfl rfl (by decide) (by decide) (by rfl)) (by kernel_rfl) (by kernel_rfl) ?_
                refine At.bP  13 (some 85) (P_conv_iw UK.u8 rfl Try.underlying2 Try.underlying5 rfl) (by kernel_rfl) (by kernel_rfl) ?_
                refine At.bP  16 (some 87) (P_indexAddr_arr1 (j := ((2 * i) + 1)) rfl Try.underlying22 sz5 rfl rfl RO OG) (by kernel_rfl) (by kernel_rfl) ?_
                exact At.into (hGi (hG21_1 )) rfl rfl
            refine hGo ?_
            refine At.bP  0 (some 72) (P_move rfl rfl) (by kernel_rfl) (by kernel_rfl) ?_
            refine At.bP  1 (some 73) (P_mul_i rfl rfl rfl (by omega)) (by kernel_rfl) (by kernel_rfl) ?_
            refine At.bP  2 (some 74) (P_move rfl rfl) (by kernel_rfl) (by kernel_rfl) ?_
            refine At.bP  3 (some 75) (P_mul_i rfl rfl rfl (by omega)) (by kernel_rfl) (by kernel_rfl) ?_
            refine At.bP  4 (some 76) (P_add_i rfl rfl rfl (by omega)) (by kernel_rfl) (by kernel_rfl) ?_
            refine At.bP  5 (some 77) (P_move rfl rfl) (by kernel_rfl) (by kernel_rfl) ?_
            refine At.bP  6 (some 78) (P_indexAddr_arr1 (j := i) rfl Try.underlying44 sz2 rfl rfl RO OG) (by kernel_rfl) (by kernel_rfl) ?_
            refine At.bQ  7 (some 79) (Q_loadM (k := 3) (f := iV) (l := (zgs (vR V 2) 16)) ((0 : Int)) rfl rfl Try.underlying2 rfl rfl OG) (by kernel_rfl) (by kernel_rfl) ?_
            refine At.bP  8 (some 80) (P_conv_iw UK.u8 rfl Try.underlying2 Try.underlying5 rfl) (by kernel_rfl) (by kernel_rfl) ?_
            refine At.bP  9 (some 81) (P_move rfl rfl) (by kernel_rfl) (by kernel_rfl) ?_
            refine At.bP  10 (some 82) (P_indexAddr_arr1 (j := i) rfl Try.underlying44 sz2 rfl rfl RO OG) (by kernel_rfl) (by kernel_rfl) ?_
            refine At.bP  14 (some 86) (P_indexAddr_arr1 (j := (2 * i)) rfl Try.underlying22 sz5 rfl rfl RO OG) (by kernel_rfl) (by kernel_rfl) ?_
            exact At.into (hGi (hG21_3 )) rfl rfl
          · rintro fr H ⟨rfl, rfl, -⟩
            refine At.inb_n ?_
            refine At.next ?_
            refine At.region ?_
            refine At.p (some 70) (P_move rfl rfl) ?_
            refine At.p (some 71) (P_add_i rfl rfl rfl (by omega)) ?_
            refine At.p (some 9) (P_assign rfl rfl) ?_
            refine At.nil ?_
            refine At.next ?_
            refine At.to [(2, _), (3, _), (8, _), (9, _)] [(2, _), (3, _), (8, ⟨true, b8, 0, 22, ((obI (vR V 2).toNat (i + 1))).map u8V, 0⟩)] (AllL.cons_ (rfl) (AllL.cons_ (rfl) (AllL.cons_ (rfl) (AllL.cons_ (rfl) trivial)))) (AllL.cons_ (rfl) (AllL.cons_ (rfl) (AllL.cons_ ((by rw [← obI_stepZ hv2.1 (by omega)]; rfl)) trivial))) ?_
            exact hKc2 _ _ _ (by omega) ⟨i + 1, rfl, rfl, rfl, (by omega)⟩
        · -- cond 69 f
          have e69 : ¬ (i : Int) < 16 := of_decide_eq_false h69
          refine At.exit ?_
          refine At.thn_e ?_
          refine At.thn_e ?_
          refine At.inb_hit ?_
          refine At.next ?_
          refine At.seq ?_
          obtain rfl : i = 16 := by omega
          have hol := obI_len (vR V 2).toNat (Nat.le_refl 16)
          refine At.region ?_
          refine At.q (some 88) (Q_loadA (k := 8) rfl rfl Try.underlying22 rfl sz22 LN rfl) ?_
          refine At.s (S_storeA none (k := 2) (vs := ((obI (vR V 2).toNat 16)).map u8V) rfl rfl rfl (by rw [sz22]; exact congrArg some LN) rfl (one_map (fun _ => rfl)) NG rfl LN ?_)
          refine At.nil ?_
          refine At.next ?_
          refine At.ret ?_
          have hq0 : ((obI (vR V 2).toNat 16)).map u8V = (packN (valZ a % pZ).toNat).map u8V := (by rw [pack_fin hV mV])
          refine At.giveV (.inl rfl) [] (rows' := []) (ResV.cellA (k := 2) rfl rfl Try.underlying22 rfl sz22 LN rfl) rfl (by simp) (by simp) ?_
          exact ⟨congrArg (fun z => Value.agg (List.toArray z)) hq0, rfl⟩

end Go.Proofs.Ytnhjmapapbhhpaa
