import Derived.Test.YtablmdbonibjaaaDoorRV3
namespace Go.Proofs.YtablmdbonibjaaaDoor
set_option maxRecDepth 20000
set_option linter.unusedVariables false
set_option linter.unusedSimpArgs false
open Go.SE Go.RowKit
attribute [local irreducible] macS sumS labS expS sealS openT openE openOk aTag streamS
attribute [local irreducible] dkS dvS nxS nnS nnI hdR rsT rsB rsE rpT rpE roE roK roT roX roO kdOk trN trL trK inR
set_option maxHeartbeats 2000000 in
theorem l_Keys {s : List (BitVec 8)} {a : BitVec 64} {b : BitVec 64} (hs : s.length = 32) :
  Con Tryd.prog 6 [aggK s, u64V a, u64V b] [] (fun v rs => v = .bool true ∧ rs = []) := by
 refine Con.enter Tryd.func6 Tryd.ntmps6 (Nat.le_of_ble_eq_true rfl) rfl fun w => ?_
 refine At.seq ?_
 refine At.region ?_
 refine At.s (S_box (some 3) 3 (zs := (s).map u8V) rfl rfl rfl (fun b3 => ?_))
 refine At.p (some 6) (P_assign rfl rfl) ?_
 refine At.nil ?_
 refine At.next ?_
 refine At.seq ?_
 refine At.region ?_
 refine At.q (some 8) (Q_loadA (k := 3) rfl rfl Tryd.underlying22 rfl sz22 LN rfl) ?_
 refine At.s (S_callV (some 9) [] [] (vs := [_]) rfl en20 rfl V0 (by simp) (c_Der (s := s) LN) (by rintro _ _ ⟨rfl, rfl⟩; rfl) ?_)
 rintro _ _ ⟨rfl, rfl⟩
 have := dkS_len s
 have := dvS_len s
 refine At.s (S_alloc (some 7) 7 (zs := [(List.replicate 32 0#8).map u8V, (List.replicate 12 0#8).map u8V].flatten) rfl ze33 rfl (fun b7 => ?_))
 refine At.s (S_storeA none (k := 7) (vs := [(dkS s).map u8V, (dvS s).map u8V].flatten) rfl rfl rfl (by rw [sz33]; exact congrArg some LN) rfl (one_flatc (one_map (fun _ => rfl)) (one_flatc (one_map (fun _ => rfl)) one_flat0)) NG rfl LN ?_)
 refine At.nil ?_
 refine At.next ?_
 refine At.seq ?_
 refine At.draws 36 [] [.q false [0, 1, 2, 3, 4, 5, 6, 7, 8, 9, 10, 11, 12, 13, 14, 15, 16, 17, 18, 19, 20, 21, 22, 23, 24, 25, 26, 27, 28, 29, 30, 31, 32, 33, 34, 35]] (by kernel_rfl) (by kernel_rfl) ?_
 refine At.wcV (some 10) [] (vs := []) rfl en14 rfl V0 (c_seals  ) ?_
 refine At.wp (some 11) (P_move rfl rfl) ?_
 refine At.wgyq (some 12) (t := 11) rfl (by first | rfl | exact nn_eq _ _ _ | (simp; done) | (rw [nn_eq]; simp; done) | (simp only [nn_eq]; simp; done)) rfl rfl (Q_loadA (k := 7) rfl rfl Tryd.underlying33 rfl sz33 LN rfl) ?_
 refine At.wcVg (some 13) [] (tt := 11) rfl (by first | rfl | exact nn_eq _ _ _ | (simp; done) | (rw [nn_eq]; simp; done) | (simp only [nn_eq]; simp; done)) rfl rfl (vs := [_]) rfl en21 rfl V0 (c_From (key := (dkS s)) (iv := (dvS s)) LN LN) ?_
 refine At.wgyq (some 14) (t := 11) rfl (by first | rfl | exact nn_eq _ _ _ | (simp; done) | (rw [nn_eq]; simp; done) | (simp only [nn_eq]; simp; done)) rfl rfl (Q_loadA (k := 3) rfl rfl Tryd.underlying22 rfl sz22 LN rfl) ?_
 refine At.wcVg (some 15) [] (tt := 11) rfl (by first | rfl | exact nn_eq _ _ _ | (simp; done) | (rw [nn_eq]; simp; done) | (simp only [nn_eq]; simp; done)) rfl rfl (vs := [_]) rfl en22 rfl V0 (r_Der (s := s) LN) ?_
 have := dkS_len s
 have := dvS_len s
 refine At.wgy (some 16) (t := 11) rfl (by first | rfl | exact nn_eq _ _ _ | (simp; done) | (rw [nn_eq]; simp; done) | (simp only [nn_eq]; simp; done)) rfl rfl (P_eql_flat (g := 9) (ls := (List.replicate 32 (ROW.lit0 0 (.i .u8))) ++ ((List.replicate 12 (ROW.lit0 0 (.i .u8))) ++ [])) (xs := [((dkS s)).map u8V, ((dvS s)).map u8V].flatten) (ys := [(dkS s).map u8V, (dvS s).map u8V].flatten) (b := decide ((dkS s) = (dkS s) ∧ (dvS s) = (dvS s) ∧ True)) (dec_iff (eqs_map u8V_inj LN (eqs_map u8V_inj LN eqs_nil))) rfl (by kernel_rfl) (by kernel_rfl) (by decide) (.inl ⟨_, Tryd.underlying25⟩) Tryd.eqGuardType25 rfl rfl (okfc (okf_w UK.u8 LN) (okfc (okf_w UK.u8 LN) okf0)) (okfc (okf_w UK.u8 LN) (okfc (okf_w UK.u8 LN) okf0))) ?_
 refine At.wp (some 17) (P_pick_t rfl rfl (by first | rfl | exact nn_eq _ _ _ | (simp; done) | (rw [nn_eq]; simp; done) | (simp only [nn_eq]; simp; done)) rfl) ?_
 refine At.wp (some 18) (P_move rfl rfl) ?_
 refine At.wgyq (some 19) (t := 18) rfl (by first | rfl | exact nn_eq _ _ _ | (simp; done) | (rw [nn_eq]; simp; done) | (simp only [nn_eq]; simp; done)) rfl rfl (Q_loadA (k := 3) rfl rfl Tryd.underlying22 rfl sz22 LN rfl) ?_
 refine At.wcVg (some 20) [] (tt := 18) rfl (by first | rfl | exact nn_eq _ _ _ | (simp; done) | (rw [nn_eq]; simp; done) | (simp only [nn_eq]; simp; done)) rfl rfl (vs := [_]) rfl en23 rfl V0 (c_Nx (s := s) LN) ?_
 have := nxS_len s
 refine At.wgyq (some 21) (t := 18) rfl (by first | rfl | exact nn_eq _ _ _ | (simp; done) | (rw [nn_eq]; simp; done) | (simp only [nn_eq]; simp; done)) rfl rfl (Q_loadA (k := 3) rfl rfl Tryd.underlying22 rfl sz22 LN rfl) ?_
 refine At.wcVg (some 22) [] (tt := 18) rfl (by first | rfl | exact nn_eq _ _ _ | (simp; done) | (rw [nn_eq]; simp; done) | (simp only [nn_eq]; simp; done)) rfl rfl (vs := [_]) rfl en24 rfl V0 (r_Nx (s := s) LN) ?_
 have := nxS_len s
 refine At.wgy (some 23) (t := 18) rfl (by first | rfl | exact nn_eq _ _ _ | (simp; done) | (rw [nn_eq]; simp; done) | (simp only [nn_eq]; simp; done)) rfl rfl (P_eql_arr (k := .u8) (xs := (nxS s)) (ys := (nxS s)) rfl Tryd.underlying22 Tryd.underlying5 sz5 Tryd.eqGuardType22 rfl rfl LN LN) ?_
 refine At.wp (some 24) (P_pick_t rfl rfl (by first | rfl | exact nn_eq _ _ _ | (simp; done) | (rw [nn_eq]; simp; done) | (simp only [nn_eq]; simp; done)) rfl) ?_
 refine At.wp (some 25) (P_move rfl rfl) ?_
 refine At.wgyq (some 26) (t := 25) rfl (by first | rfl | exact nn_eq _ _ _ | (simp; done) | (rw [nn_eq]; simp; done) | (simp only [nn_eq]; simp; done)) rfl rfl (Q_loadA (k := 7) rfl rfl Tryd.underlying33 rfl sz33 LN rfl) ?_
 refine At.wgy (some 27) (t := 25) rfl (by first | rfl | exact nn_eq _ _ _ | (simp; done) | (rw [nn_eq]; simp; done) | (simp only [nn_eq]; simp; done)) rfl rfl (P_move rfl rfl) ?_
 refine At.wcVg (some 28) [] (tt := 25) rfl (by first | rfl | exact nn_eq _ _ _ | (simp; done) | (rw [nn_eq]; simp; done) | (simp only [nn_eq]; simp; done)) rfl rfl (vs := [_, _]) rfl en25 rfl V0 (c_Non (key := (dkS s)) (iv := (dvS s)) (seq := a) LN LN) ?_
 have := nnS_len (dvS s) a
 refine At.wgyq (some 29) (t := 25) rfl (by first | rfl | exact nn_eq _ _ _ | (simp; done) | (rw [nn_eq]; simp; done) | (simp only [nn_eq]; simp; done)) rfl rfl (Q_loadA (k := 7) rfl rfl Tryd.underlying33 rfl sz33 LN rfl) ?_
 refine At.wcVg (some 30) [] (tt := 25) rfl (by first | rfl | exact nn_eq _ _ _ | (simp; done) | (rw [nn_eq]; simp; done) | (simp only [nn_eq]; simp; done)) rfl rfl (vs := [_]) rfl en21 rfl V0 (c_From (key := (dkS s)) (iv := (dvS s)) LN LN) ?_
 refine At.wgy (some 31) (t := 25) rfl (by first | rfl | exact nn_eq _ _ _ | (simp; done) | (rw [nn_eq]; simp; done) | (simp only [nn_eq]; simp; done)) rfl rfl (P_move rfl rfl) ?_
 refine At.wcVg (some 32) [] (tt := 25) rfl (by first | rfl | exact nn_eq _ _ _ | (simp; done) | (rw [nn_eq]; simp; done) | (simp only [nn_eq]; simp; done)) rfl rfl (vs := [_, _]) rfl en19 rfl V0 (r_Non (key := (dkS s)) (iv := (dvS s)) (seq := a) LN LN) ?_
 have := nnS_len (dvS s) a
 refine At.wgy (some 33) (t := 25) rfl (by first | rfl | exact nn_eq _ _ _ | (simp; done) | (rw [nn_eq]; simp; done) | (simp only [nn_eq]; simp; done)) rfl rfl (P_eql_arr (k := .u8) (xs := (nnS (dvS s) a)) (ys := (nnS (dvS s) a)) rfl Tryd.underlying23 Tryd.underlying5 sz5 Tryd.eqGuardType23 rfl rfl LN LN) ?_
 refine At.wp (some 34) (P_pick_t rfl rfl (by first | rfl | exact nn_eq _ _ _ | (simp; done) | (rw [nn_eq]; simp; done) | (simp only [nn_eq]; simp; done)) rfl) ?_
 refine At.wp (some 35) (P_move rfl rfl) ?_
 refine At.wgyq (some 36) (t := 35) rfl (by first | rfl | exact nn_eq _ _ _ | (simp; done) | (rw [nn_eq]; simp; done) | (simp only [nn_eq]; simp; done)) rfl rfl (Q_loadA (k := 7) rfl rfl Tryd.underlying33 rfl sz33 LN rfl) ?_
 refine At.wgy (some 37) (t := 35) rfl (by first | rfl | exact nn_eq _ _ _ | (simp; done) | (rw [nn_eq]; simp; done) | (simp only [nn_eq]; simp; done)) rfl rfl (P_move rfl rfl) ?_
 refine At.wcVg (some 38) [] (tt := 35) rfl (by first | rfl | exact nn_eq _ _ _ | (simp; done) | (rw [nn_eq]; simp; done) | (simp only [nn_eq]; simp; done)) rfl rfl (vs := [_, _]) rfl en25 rfl V0 (c_Non (key := (dkS s)) (iv := (dvS s)) (seq := a) LN LN) ?_
 have := nnS_len (dvS s) a
 refine At.wgyq (some 39) (t := 35) rfl (by first | rfl | exact nn_eq _ _ _ | (simp; done) | (rw [nn_eq]; simp; done) | (simp only [nn_eq]; simp; done)) rfl rfl (Q_loadA (k := 7) rfl rfl Tryd.underlying33 rfl sz33 LN rfl) ?_
 refine At.wgy (some 40) (t := 35) rfl (by first | rfl | exact nn_eq _ _ _ | (simp; done) | (rw [nn_eq]; simp; done) | (simp only [nn_eq]; simp; done)) rfl rfl (P_move rfl rfl) ?_
 refine At.wcVg (some 41) [] (tt := 35) rfl (by first | rfl | exact nn_eq _ _ _ | (simp; done) | (rw [nn_eq]; simp; done) | (simp only [nn_eq]; simp; done)) rfl rfl (vs := [_, _]) rfl en25 rfl V0 (c_Non (key := (dkS s)) (iv := (dvS s)) (seq := b) LN LN) ?_
 have := nnS_len (dvS s) b
 refine At.wgy (some 42) (t := 35) rfl (by first | rfl | exact nn_eq _ _ _ | (simp; done) | (rw [nn_eq]; simp; done) | (simp only [nn_eq]; simp; done)) rfl rfl (P_eql_arr (k := .u8) (xs := (nnS (dvS s) a)) (ys := (nnS (dvS s) b)) rfl Tryd.underlying23 Tryd.underlying5 sz5 Tryd.eqGuardType23 rfl rfl LN LN) ?_
 refine At.wgy (some 43) (t := 35) rfl (by first | rfl | exact nn_eq _ _ _ | (simp; done) | (rw [nn_eq]; simp; done) | (simp only [nn_eq]; simp; done)) rfl rfl (P_move rfl rfl) ?_
 refine At.wgy (some 44) (t := 35) rfl (by first | rfl | exact nn_eq _ _ _ | (simp; done) | (rw [nn_eq]; simp; done) | (simp only [nn_eq]; simp; done)) rfl rfl (P_move rfl rfl) ?_
 refine At.wgy (some 45) (t := 35) rfl (by first | rfl | exact nn_eq _ _ _ | (simp; done) | (rw [nn_eq]; simp; done) | (simp only [nn_eq]; simp; done)) rfl rfl (P_eql_w (n := 64) rfl rfl rfl) ?_
 refine At.wqn ?_
 refine At.wt rfl ?_
 refine At.gy (t := 35) rfl (by first | rfl | exact nn_eq _ _ _ | (simp; done) | (rw [nn_eq]; simp; done) | (simp only [nn_eq]; simp; done)) rfl rfl ?_
 refine At.p (some 46) (P_eql_bool rfl Tryd.underlying4 rfl rfl) ?_
 refine At.p (some 47) (P_pick_t rfl rfl (by first | rfl | exact nn_eq _ _ _ | (simp; done) | (rw [nn_eq]; simp; done) | (simp only [nn_eq]; simp; done)) rfl) ?_
 refine At.p (some 6) (P_assign rfl rfl) ?_
 refine At.nil ?_
 refine At.next ?_
 refine At.ret ?_
 have hq0 : (((nnS (dvS s) a) == (nnS (dvS s) b)) == (a == b)) = true := (by first | rfl | exact nn_eq _ _ _ | (simp; done) | (rw [nn_eq]; simp; done) | (simp only [nn_eq]; simp; done))
 refine At.give (.inl rfl) [] (rows' := []) (vs := [_]) rfl ⟨rfl, trivial⟩ rfl (by simp) (by simp) ⟨(by first | (rw [hq0]; try rfl; done) | (rw [← hq0]; try rfl; done) | (simp only [hq0]; try rfl; done) | (simp only [← hq0]; try rfl; done) | rfl), (by first | (rw [hq0]; try rfl; done) | (rw [← hq0]; try rfl; done) | (simp only [hq0]; try rfl; done) | (simp only [← hq0]; try rfl; done) | rfl)⟩


end Go.Proofs.YtablmdbonibjaaaDoor

