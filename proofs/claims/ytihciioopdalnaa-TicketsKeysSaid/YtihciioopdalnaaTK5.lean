import Derived.Test.YtihciioopdalnaaTK3
import Derived.Test.YtihciioopdalnaaTK4
namespace Go.Proofs.Ytihciioopdalnaa
set_option maxRecDepth 20000
set_option linter.unusedVariables false
set_option linter.unusedSimpArgs false
open Go.SE Go.RowKit
attribute [local irreducible] macS sumS
def tabL (p : List (BitVec 8)) (i : Nat) : List Ent := (List.range i).map fun (j : Nat) => mkEnt (j : Int) p
theorem tabL_len (p : List (BitVec 8)) (i : Nat) : (tabL p i).length = i := by simp [tabL]
theorem tabL_0 (p : List (BitVec 8)) : tabL p 0 = [] := rfl
theorem tabL_succ (p : List (BitVec 8)) (i : Nat) : tabL p (i + 1) = tabL p i ++ [mkEnt (i : Int) p] := by simp [tabL, List.range_succ]
theorem tabL_at {p : List (BitVec 8)} {i j : Nat} (h : j < i) : ((tabL p i).getD j default).id = (j : Int) := by
 rw [List.getD_eq_getElem?_getD, tabL, List.getElem?_map, List.getElem?_range h]
 exact mkEnt_id _ _
theorem ris_tab {p : List (BitVec 8)} {i : Nat} : ∀ k, k ≤ i → risB (i : Int) (-1) (tabL p i) = risB (i : Int) (lastId (tabL p i) k) ((tabL p i).drop k)
 | 0, _ => rfl
 | k + 1, h => by
  rw [ris_tab k (by omega)]
  refine ris_go (by rw [tabL_len]; omega) ?_ ?_
  ·
   rw [tabL_at (by omega)]
   cases k with
   | zero => show (-1 : Int) < _; omega
   | succ j => show ((tabL p i).getD j default).id < _; rw [tabL_at (by omega)]; omega
  · rw [tabL_at (by omega)]; omega
theorem right_tab {p : List (BitVec 8)} {i : Nat} (h : i ≤ 8) : rightT (i : Int) (tabL p i) = true :=
 rt_c (k := i) ⟨by omega, by omega, by rw [tabL_len]; exact h⟩ (ris_tab i (Nat.le_refl _)) (by rw [tabL_len]; exact Nat.le_refl _)
theorem mt_step {i : Nat} (key p : List (BitVec 8)) (h : i < 8) : miK key (i : Int) (tabL p i) = key ∧ miN (i : Int) (tabL p i) = ((i + 1 : Nat) : Int) ∧ miL (i : Int) (tabL p i) p = tabL p (i + 1) := by
 obtain ⟨z5, z1, z2, z3, z4⟩ := mi_t (nx := (i : Int)) (L := tabL p i) key p (right_tab (by omega)) (by omega)
 refine ⟨z1, z2, ?_⟩
 rw [z3, mintL, if_neg (by rw [tabL_len]; omega), tabL_succ]
theorem idx_tab {p : List (BitVec 8)} {i k : Nat} (h : k < i) : idxS (k : Int) (tabL p i) = k := by
 have go : ∀ j, j ≤ k → idxS (k : Int) (tabL p i) = j + idxS (k : Int) ((tabL p i).drop j) := fun j => by
  induction j with
  | zero => intro _; simp
  | succ j ih => intro hj; exact idx_go (by rw [tabL_len]; omega) (by rw [tabL_at (by omega)]; omega) (ih (by omega))
 exact idx_at (by rw [tabL_len]; exact h) (tabL_at h) (go k (Nat.le_refl _))
theorem keys_us {a b p : List (BitVec 8)} {k : Nat} (hk : k < 8) : usE a ((k + 1 : Nat) : Int) (tabL p (k + 1)) (tkT b (k : Int)) = if tkT a (k : Int) = tkT b (k : Int) then 0 else 13 := by
 have hm : 0 ≤ (k : Int) ∧ (k : Int) ≤ 2147483647 := by omega
 have hr := right_tab (p := p) (i := k + 1) (by omega)
 have hn : nuOk a ((k + 1 : Nat) : Int) (tkT b (k : Int)) = decide (tkT a (k : Int) = tkT b (k : Int)) := by
  rw [nuOk, nu_tk (by omega), decide_eq_true (tk_len hm), decide_eq_true (show ((k : Nat) : Int) < ((k + 1 : Nat) : Int) by omega)]
  simp
 by_cases h : tkT a (k : Int) = tkT b (k : Int)
 ·
  rw [if_pos h]
  exact usE_0 hr (by rw [hn]; exact decide_eq_true h) (by rw [nu_tk (by omega), idx_tab (by omega), tabL_len]; omega)
 ·
  rw [if_neg h]
  exact usE_13 hr (by rw [hn]; exact decide_eq_false h)
theorem keys_uI {a b p : List (BitVec 8)} {k : Nat} (hk : k < 8) : usE a ((k : Int) + 1) (tabL p (k + 1)) (tkT b (k : Int)) = if tkT a (k : Int) = tkT b (k : Int) then 0 else 13 := keys_us hk

attribute [local irreducible] tkT rightT risB lastId
attribute [local irreducible] nuI nuOk idxS idxI mintL miE miK miN miL miI usE usK usN usL usI knN tabL
set_option maxHeartbeats 2000000 in
theorem c_mints   :
  Con Try.prog 33 [] [] (fun v rs => v = .bool true ∧ rs = []) := by
 refine Con.enter Try.func33 Try.ntmps33 (Nat.le_of_ble_eq_true rfl) rfl fun w => ?_
 refine At.seq ?_
 refine At.region ?_
 refine At.p (some 0) (P_assign rfl rfl) ?_
 refine At.nil ?_
 refine At.next ?_
 refine At.seq ?_
 refine At.region ?_
 refine At.p (some 12) (P_build_arr (cs := (([1#8, 0#8, 0#8, 0#8, 0#8, 0#8, 0#8, 0#8, 0#8, 0#8, 0#8, 0#8, 0#8, 0#8, 0#8, 0#8, 0#8, 0#8, 0#8, 0#8, 0#8, 0#8, 0#8, 0#8, 0#8, 0#8, 0#8, 0#8, 0#8, 0#8, 0#8, 0#8]).map u8V).toArray) (parts := _) (vs := [(0, _)]) rfl Try.underlying23 sz5 ze23 rfl rfl) ?_
 refine At.s (S_callV (some 13) [] [] (vs := [_]) rfl en24 rfl V0 (by simp) (c_TNew (key := [1#8, 0#8, 0#8, 0#8, 0#8, 0#8, 0#8, 0#8, 0#8, 0#8, 0#8, 0#8, 0#8, 0#8, 0#8, 0#8, 0#8, 0#8, 0#8, 0#8, 0#8, 0#8, 0#8, 0#8, 0#8, 0#8, 0#8, 0#8, 0#8, 0#8, 0#8, 0#8]) LN) (by rintro _ _ ⟨rfl, rfl⟩; rfl) ?_)
 rintro _ _ ⟨rfl, rfl⟩
 refine At.p (some 14) (P_build_arr (cs := (([2#8, 0#8, 0#8, 0#8, 0#8, 0#8, 0#8, 0#8, 0#8, 0#8, 0#8, 0#8, 0#8, 0#8, 0#8, 0#8, 0#8, 0#8, 0#8, 0#8, 0#8, 0#8, 0#8, 0#8, 0#8, 0#8, 0#8, 0#8, 0#8, 0#8, 0#8, 0#8]).map u8V).toArray) (parts := _) (vs := [(0, _)]) rfl Try.underlying23 sz5 ze23 rfl rfl) ?_
 refine At.s (S_callV (some 15) [(98, _)] [15] (vs := [_, _]) rfl en26 rfl (VE rfl rfl V0) (by simp) (c_Mint (key := [1#8, 0#8, 0#8, 0#8, 0#8, 0#8, 0#8, 0#8, 0#8, 0#8, 0#8, 0#8, 0#8, 0#8, 0#8, 0#8, 0#8, 0#8, 0#8, 0#8, 0#8, 0#8, 0#8, 0#8, 0#8, 0#8, 0#8, 0#8, 0#8, 0#8, 0#8, 0#8]) (next := 0) (L := []) (A := none) (n := 0) (c := 0) (b := 0) (q := 0) (psk := [2#8, 0#8, 0#8, 0#8, 0#8, 0#8, 0#8, 0#8, 0#8, 0#8, 0#8, 0#8, 0#8, 0#8, 0#8, 0#8, 0#8, 0#8, 0#8, 0#8, 0#8, 0#8, 0#8, 0#8, 0#8, 0#8, 0#8, 0#8, 0#8, 0#8, 0#8, 0#8]) LN LN (fun h => absurd h (Nat.lt_irrefl 0)) OG LN) (by rintro _ _ ⟨A15, b15, c15, g15a, g15b, rfl, rfl⟩; rfl) ?_)
 rintro _ _ ⟨A15, b15, c15, g15a, g15b, rfl, rfl⟩
 have := miK_len 0 [] (key := [1#8, 0#8, 0#8, 0#8, 0#8, 0#8, 0#8, 0#8, 0#8, 0#8, 0#8, 0#8, 0#8, 0#8, 0#8, 0#8, 0#8, 0#8, 0#8, 0#8, 0#8, 0#8, 0#8, 0#8, 0#8, 0#8, 0#8, 0#8, 0#8, 0#8, 0#8, 0#8]) LN
 refine At.p (some 11) (P_move rfl rfl) ?_
 refine At.p (some 16) (P_extract rfl rfl rfl) ?_
 refine At.p (some 17) (P_extract rfl rfl rfl) ?_
 refine At.p (some 18) (P_extract rfl rfl rfl) ?_
 refine At.s (S_alloc (some 1) 1 (zs := [(List.replicate 32 0#8).map u8V, [iV 0, .slice none 0 0]].flatten) rfl ze40 rfl (fun b1 => ?_))
 refine At.s (S_storeA none (k := 1) (vs := [(miK [1#8, 0#8, 0#8, 0#8, 0#8, 0#8, 0#8, 0#8, 0#8, 0#8, 0#8, 0#8, 0#8, 0#8, 0#8, 0#8, 0#8, 0#8, 0#8, 0#8, 0#8, 0#8, 0#8, 0#8, 0#8, 0#8, 0#8, 0#8, 0#8, 0#8, 0#8, 0#8] 0 []).map u8V, [iV (miN 0 []), .slice A15 ((miL 0 [] [2#8, 0#8, 0#8, 0#8, 0#8, 0#8, 0#8, 0#8, 0#8, 0#8, 0#8, 0#8, 0#8, 0#8, 0#8, 0#8, 0#8, 0#8, 0#8, 0#8, 0#8, 0#8, 0#8, 0#8, 0#8, 0#8, 0#8, 0#8, 0#8, 0#8, 0#8, 0#8]).length) c15]].flatten) rfl rfl rfl (by rw [sz40]; exact congrArg some LN) rfl (one_flatc (one_map (fun _ => rfl)) (one_flatc (one_cons rfl (one_cons rfl one_nil)) one_flat0)) NG rfl LN ?_)
 refine At.p (some 2) (P_assign rfl rfl) ?_
 refine At.p (some 3) (P_assign rfl rfl) ?_
 refine At.nil ?_
 refine At.next ?_
 refine At.seq ?_
 refine At.region ?_
 refine At.q (some 19) (Q_loadA (k := 1) rfl rfl Try.underlying40 rfl sz40 LN rfl) ?_
 refine At.p (some 20) (P_move rfl rfl) ?_
 refine At.s (S_callV (some 21) [(15, _)] [21] (vs := [_, _]) rfl en36 rfl (VN (by simp) rfl View.all V0) (by simp) (c_TText (key := (miK [1#8, 0#8, 0#8, 0#8, 0#8, 0#8, 0#8, 0#8, 0#8, 0#8, 0#8, 0#8, 0#8, 0#8, 0#8, 0#8, 0#8, 0#8, 0#8, 0#8, 0#8, 0#8, 0#8, 0#8, 0#8, 0#8, 0#8, 0#8, 0#8, 0#8, 0#8, 0#8] 0 [])) (next := (miN 0 [])) (L := (miL 0 [] [2#8, 0#8, 0#8, 0#8, 0#8, 0#8, 0#8, 0#8, 0#8, 0#8, 0#8, 0#8, 0#8, 0#8, 0#8, 0#8, 0#8, 0#8, 0#8, 0#8, 0#8, 0#8, 0#8, 0#8, 0#8, 0#8, 0#8, 0#8, 0#8, 0#8, 0#8, 0#8])) (A := A15) (n := ((miL 0 [] [2#8, 0#8, 0#8, 0#8, 0#8, 0#8, 0#8, 0#8, 0#8, 0#8, 0#8, 0#8, 0#8, 0#8, 0#8, 0#8, 0#8, 0#8, 0#8, 0#8, 0#8, 0#8, 0#8, 0#8, 0#8, 0#8, 0#8, 0#8, 0#8, 0#8, 0#8, 0#8]).length)) (c := c15) (b := b15) (q := 0) (id := (miI 0 [])) LN LN (fun h => g15a (by omega)) OG) (by rintro _ _ ⟨A21, b21, c21, g21a, g21b, rfl, rfl⟩; rfl) ?_)
 rintro _ _ ⟨A21, b21, c21, g21a, g21b, rfl, rfl⟩
 have := tk_le (miK [1#8, 0#8, 0#8, 0#8, 0#8, 0#8, 0#8, 0#8, 0#8, 0#8, 0#8, 0#8, 0#8, 0#8, 0#8, 0#8, 0#8, 0#8, 0#8, 0#8, 0#8, 0#8, 0#8, 0#8, 0#8, 0#8, 0#8, 0#8, 0#8, 0#8, 0#8, 0#8] 0 []) (miI 0 [])
 refine At.p (some 4) (P_assign rfl rfl) ?_
 refine At.nil ?_
 refine At.next ?_
 refine At.seq ?_
 refine At.region ?_
 refine At.q (some 23) (Q_loadA (k := 1) rfl rfl Try.underlying40 rfl sz40 LN rfl) ?_
 refine At.p (some 24) (P_move rfl rfl) ?_
 refine At.s (S_callV (some 25) [(15, _), (21, _)] [25] (vs := [_, _]) rfl en29 rfl (VN (by simp) rfl View.all (VN (by simp) rfl View.all V0)) (by simp) (c_Use (key := (miK [1#8, 0#8, 0#8, 0#8, 0#8, 0#8, 0#8, 0#8, 0#8, 0#8, 0#8, 0#8, 0#8, 0#8, 0#8, 0#8, 0#8, 0#8, 0#8, 0#8, 0#8, 0#8, 0#8, 0#8, 0#8, 0#8, 0#8, 0#8, 0#8, 0#8, 0#8, 0#8] 0 [])) (next := (miN 0 [])) (L := (miL 0 [] [2#8, 0#8, 0#8, 0#8, 0#8, 0#8, 0#8, 0#8, 0#8, 0#8, 0#8, 0#8, 0#8, 0#8, 0#8, 0#8, 0#8, 0#8, 0#8, 0#8, 0#8, 0#8, 0#8, 0#8, 0#8, 0#8, 0#8, 0#8, 0#8, 0#8, 0#8, 0#8])) (A := A15) (n := ((miL 0 [] [2#8, 0#8, 0#8, 0#8, 0#8, 0#8, 0#8, 0#8, 0#8, 0#8, 0#8, 0#8, 0#8, 0#8, 0#8, 0#8, 0#8, 0#8, 0#8, 0#8, 0#8, 0#8, 0#8, 0#8, 0#8, 0#8, 0#8, 0#8, 0#8, 0#8, 0#8, 0#8]).length)) (c := c15) (b := b15) (q := 0) (tk := (tkT (miK [1#8, 0#8, 0#8, 0#8, 0#8, 0#8, 0#8, 0#8, 0#8, 0#8, 0#8, 0#8, 0#8, 0#8, 0#8, 0#8, 0#8, 0#8, 0#8, 0#8, 0#8, 0#8, 0#8, 0#8, 0#8, 0#8, 0#8, 0#8, 0#8, 0#8, 0#8, 0#8] 0 []) (miI 0 []))) (ntk := ((tkT (miK [1#8, 0#8, 0#8, 0#8, 0#8, 0#8, 0#8, 0#8, 0#8, 0#8, 0#8, 0#8, 0#8, 0#8, 0#8, 0#8, 0#8, 0#8, 0#8, 0#8, 0#8, 0#8, 0#8, 0#8, 0#8, 0#8, 0#8, 0#8, 0#8, 0#8, 0#8, 0#8] 0 []) (miI 0 [])).length)) (Atk := A21) (ctk := c21) (btk := b21) (qtk := 0) LN LN (fun h => g15a (by omega)) OG LN (fun h => g21a (by omega)) OG) (by rintro _ _ ⟨A25, b25, c25, g25a, g25b, rfl, rfl⟩; rfl) ?_)
 rintro _ _ ⟨A25, b25, c25, g25a, g25b, rfl, rfl⟩
 have := usK_len (miN 0 []) (miL 0 [] [2#8, 0#8, 0#8, 0#8, 0#8, 0#8, 0#8, 0#8, 0#8, 0#8, 0#8, 0#8, 0#8, 0#8, 0#8, 0#8, 0#8, 0#8, 0#8, 0#8, 0#8, 0#8, 0#8, 0#8, 0#8, 0#8, 0#8, 0#8, 0#8, 0#8, 0#8, 0#8]) (tkT (miK [1#8, 0#8, 0#8, 0#8, 0#8, 0#8, 0#8, 0#8, 0#8, 0#8, 0#8, 0#8, 0#8, 0#8, 0#8, 0#8, 0#8, 0#8, 0#8, 0#8, 0#8, 0#8, 0#8, 0#8, 0#8, 0#8, 0#8, 0#8, 0#8, 0#8, 0#8, 0#8] 0 []) (miI 0 [])) (key := (miK [1#8, 0#8, 0#8, 0#8, 0#8, 0#8, 0#8, 0#8, 0#8, 0#8, 0#8, 0#8, 0#8, 0#8, 0#8, 0#8, 0#8, 0#8, 0#8, 0#8, 0#8, 0#8, 0#8, 0#8, 0#8, 0#8, 0#8, 0#8, 0#8, 0#8, 0#8, 0#8] 0 [])) LN
 refine At.p (some 22) (P_move rfl rfl) ?_
 refine At.p (some 26) (P_extract rfl rfl rfl) ?_
 refine At.p (some 27) (P_extract rfl rfl rfl) ?_
 refine At.p (some 28) (P_extract rfl rfl rfl) ?_
 refine At.s (S_alloc (some 5) 5 (zs := [(List.replicate 32 0#8).map u8V, [iV 0, .slice none 0 0]].flatten) rfl ze40 rfl (fun b5 => ?_))
 refine At.s (S_storeA none (k := 5) (vs := [(usK (miK [1#8, 0#8, 0#8, 0#8, 0#8, 0#8, 0#8, 0#8, 0#8, 0#8, 0#8, 0#8, 0#8, 0#8, 0#8, 0#8, 0#8, 0#8, 0#8, 0#8, 0#8, 0#8, 0#8, 0#8, 0#8, 0#8, 0#8, 0#8, 0#8, 0#8, 0#8, 0#8] 0 []) (miN 0 []) (miL 0 [] [2#8, 0#8, 0#8, 0#8, 0#8, 0#8, 0#8, 0#8, 0#8, 0#8, 0#8, 0#8, 0#8, 0#8, 0#8, 0#8, 0#8, 0#8, 0#8, 0#8, 0#8, 0#8, 0#8, 0#8, 0#8, 0#8, 0#8, 0#8, 0#8, 0#8, 0#8, 0#8]) (tkT (miK [1#8, 0#8, 0#8, 0#8, 0#8, 0#8, 0#8, 0#8, 0#8, 0#8, 0#8, 0#8, 0#8, 0#8, 0#8, 0#8, 0#8, 0#8, 0#8, 0#8, 0#8, 0#8, 0#8, 0#8, 0#8, 0#8, 0#8, 0#8, 0#8, 0#8, 0#8, 0#8] 0 []) (miI 0 []))).map u8V, [iV (usN (miK [1#8, 0#8, 0#8, 0#8, 0#8, 0#8, 0#8, 0#8, 0#8, 0#8, 0#8, 0#8, 0#8, 0#8, 0#8, 0#8, 0#8, 0#8, 0#8, 0#8, 0#8, 0#8, 0#8, 0#8, 0#8, 0#8, 0#8, 0#8, 0#8, 0#8, 0#8, 0#8] 0 []) (miN 0 []) (miL 0 [] [2#8, 0#8, 0#8, 0#8, 0#8, 0#8, 0#8, 0#8, 0#8, 0#8, 0#8, 0#8, 0#8, 0#8, 0#8, 0#8, 0#8, 0#8, 0#8, 0#8, 0#8, 0#8, 0#8, 0#8, 0#8, 0#8, 0#8, 0#8, 0#8, 0#8, 0#8, 0#8]) (tkT (miK [1#8, 0#8, 0#8, 0#8, 0#8, 0#8, 0#8, 0#8, 0#8, 0#8, 0#8, 0#8, 0#8, 0#8, 0#8, 0#8, 0#8, 0#8, 0#8, 0#8, 0#8, 0#8, 0#8, 0#8, 0#8, 0#8, 0#8, 0#8, 0#8, 0#8, 0#8, 0#8] 0 []) (miI 0 []))), .slice A25 ((usL (miK [1#8, 0#8, 0#8, 0#8, 0#8, 0#8, 0#8, 0#8, 0#8, 0#8, 0#8, 0#8, 0#8, 0#8, 0#8, 0#8, 0#8, 0#8, 0#8, 0#8, 0#8, 0#8, 0#8, 0#8, 0#8, 0#8, 0#8, 0#8, 0#8, 0#8, 0#8, 0#8] 0 []) (miN 0 []) (miL 0 [] [2#8, 0#8, 0#8, 0#8, 0#8, 0#8, 0#8, 0#8, 0#8, 0#8, 0#8, 0#8, 0#8, 0#8, 0#8, 0#8, 0#8, 0#8, 0#8, 0#8, 0#8, 0#8, 0#8, 0#8, 0#8, 0#8, 0#8, 0#8, 0#8, 0#8, 0#8, 0#8]) (tkT (miK [1#8, 0#8, 0#8, 0#8, 0#8, 0#8, 0#8, 0#8, 0#8, 0#8, 0#8, 0#8, 0#8, 0#8, 0#8, 0#8, 0#8, 0#8, 0#8, 0#8, 0#8, 0#8, 0#8, 0#8, 0#8, 0#8, 0#8, 0#8, 0#8, 0#8, 0#8, 0#8] 0 []) (miI 0 []))).length) c25]].flatten) rfl rfl rfl (by rw [sz40]; exact congrArg some LN) rfl (one_flatc (one_map (fun _ => rfl)) (one_flatc (one_cons rfl (one_cons rfl one_nil)) one_flat0)) NG rfl LN ?_)
 refine At.p (some 6) (P_assign rfl rfl) ?_
 refine At.p (some 7) (P_assign rfl rfl) ?_
 refine At.nil ?_
 refine At.next ?_
 refine At.seq ?_
 refine At.region ?_
 refine At.q (some 30) (Q_loadA (k := 5) rfl rfl Try.underlying40 rfl sz40 LN rfl) ?_
 refine At.p (some 31) (P_move rfl rfl) ?_
 refine At.s (S_callV (some 32) [(25, _), (21, _)] [32] (vs := [_, _]) rfl en29 rfl (VN (by simp) rfl View.all (VN (by simp) rfl View.all V0)) (by simp) (c_Use (key := (usK (miK [1#8, 0#8, 0#8, 0#8, 0#8, 0#8, 0#8, 0#8, 0#8, 0#8, 0#8, 0#8, 0#8, 0#8, 0#8, 0#8, 0#8, 0#8, 0#8, 0#8, 0#8, 0#8, 0#8, 0#8, 0#8, 0#8, 0#8, 0#8, 0#8, 0#8, 0#8, 0#8] 0 []) (miN 0 []) (miL 0 [] [2#8, 0#8, 0#8, 0#8, 0#8, 0#8, 0#8, 0#8, 0#8, 0#8, 0#8, 0#8, 0#8, 0#8, 0#8, 0#8, 0#8, 0#8, 0#8, 0#8, 0#8, 0#8, 0#8, 0#8, 0#8, 0#8, 0#8, 0#8, 0#8, 0#8, 0#8, 0#8]) (tkT (miK [1#8, 0#8, 0#8, 0#8, 0#8, 0#8, 0#8, 0#8, 0#8, 0#8, 0#8, 0#8, 0#8, 0#8, 0#8, 0#8, 0#8, 0#8, 0#8, 0#8, 0#8, 0#8, 0#8, 0#8, 0#8, 0#8, 0#8, 0#8, 0#8, 0#8, 0#8, 0#8] 0 []) (miI 0 [])))) (next := (usN (miK [1#8, 0#8, 0#8, 0#8, 0#8, 0#8, 0#8, 0#8, 0#8, 0#8, 0#8, 0#8, 0#8, 0#8, 0#8, 0#8, 0#8, 0#8, 0#8, 0#8, 0#8, 0#8, 0#8, 0#8, 0#8, 0#8, 0#8, 0#8, 0#8, 0#8, 0#8, 0#8] 0 []) (miN 0 []) (miL 0 [] [2#8, 0#8, 0#8, 0#8, 0#8, 0#8, 0#8, 0#8, 0#8, 0#8, 0#8, 0#8, 0#8, 0#8, 0#8, 0#8, 0#8, 0#8, 0#8, 0#8, 0#8, 0#8, 0#8, 0#8, 0#8, 0#8, 0#8, 0#8, 0#8, 0#8, 0#8, 0#8]) (tkT (miK [1#8, 0#8, 0#8, 0#8, 0#8, 0#8, 0#8, 0#8, 0#8, 0#8, 0#8, 0#8, 0#8, 0#8, 0#8, 0#8, 0#8, 0#8, 0#8, 0#8, 0#8, 0#8, 0#8, 0#8, 0#8, 0#8, 0#8, 0#8, 0#8, 0#8, 0#8, 0#8] 0 []) (miI 0 [])))) (L := (usL (miK [1#8, 0#8, 0#8, 0#8, 0#8, 0#8, 0#8, 0#8, 0#8, 0#8, 0#8, 0#8, 0#8, 0#8, 0#8, 0#8, 0#8, 0#8, 0#8, 0#8, 0#8, 0#8, 0#8, 0#8, 0#8, 0#8, 0#8, 0#8, 0#8, 0#8, 0#8, 0#8] 0 []) (miN 0 []) (miL 0 [] [2#8, 0#8, 0#8, 0#8, 0#8, 0#8, 0#8, 0#8, 0#8, 0#8, 0#8, 0#8, 0#8, 0#8, 0#8, 0#8, 0#8, 0#8, 0#8, 0#8, 0#8, 0#8, 0#8, 0#8, 0#8, 0#8, 0#8, 0#8, 0#8, 0#8, 0#8, 0#8]) (tkT (miK [1#8, 0#8, 0#8, 0#8, 0#8, 0#8, 0#8, 0#8, 0#8, 0#8, 0#8, 0#8, 0#8, 0#8, 0#8, 0#8, 0#8, 0#8, 0#8, 0#8, 0#8, 0#8, 0#8, 0#8, 0#8, 0#8, 0#8, 0#8, 0#8, 0#8, 0#8, 0#8] 0 []) (miI 0 [])))) (A := A25) (n := ((usL (miK [1#8, 0#8, 0#8, 0#8, 0#8, 0#8, 0#8, 0#8, 0#8, 0#8, 0#8, 0#8, 0#8, 0#8, 0#8, 0#8, 0#8, 0#8, 0#8, 0#8, 0#8, 0#8, 0#8, 0#8, 0#8, 0#8, 0#8, 0#8, 0#8, 0#8, 0#8, 0#8] 0 []) (miN 0 []) (miL 0 [] [2#8, 0#8, 0#8, 0#8, 0#8, 0#8, 0#8, 0#8, 0#8, 0#8, 0#8, 0#8, 0#8, 0#8, 0#8, 0#8, 0#8, 0#8, 0#8, 0#8, 0#8, 0#8, 0#8, 0#8, 0#8, 0#8, 0#8, 0#8, 0#8, 0#8, 0#8, 0#8]) (tkT (miK [1#8, 0#8, 0#8, 0#8, 0#8, 0#8, 0#8, 0#8, 0#8, 0#8, 0#8, 0#8, 0#8, 0#8, 0#8, 0#8, 0#8, 0#8, 0#8, 0#8, 0#8, 0#8, 0#8, 0#8, 0#8, 0#8, 0#8, 0#8, 0#8, 0#8, 0#8, 0#8] 0 []) (miI 0 []))).length)) (c := c25) (b := b25) (q := 0) (tk := (tkT (miK [1#8, 0#8, 0#8, 0#8, 0#8, 0#8, 0#8, 0#8, 0#8, 0#8, 0#8, 0#8, 0#8, 0#8, 0#8, 0#8, 0#8, 0#8, 0#8, 0#8, 0#8, 0#8, 0#8, 0#8, 0#8, 0#8, 0#8, 0#8, 0#8, 0#8, 0#8, 0#8] 0 []) (miI 0 []))) (ntk := ((tkT (miK [1#8, 0#8, 0#8, 0#8, 0#8, 0#8, 0#8, 0#8, 0#8, 0#8, 0#8, 0#8, 0#8, 0#8, 0#8, 0#8, 0#8, 0#8, 0#8, 0#8, 0#8, 0#8, 0#8, 0#8, 0#8, 0#8, 0#8, 0#8, 0#8, 0#8, 0#8, 0#8] 0 []) (miI 0 [])).length)) (Atk := A21) (ctk := c21) (btk := b21) (qtk := 0) LN LN (fun h => g25a (by omega)) OG LN (fun h => g21a (by omega)) OG) (by rintro _ _ ⟨A32, b32, c32, g32a, g32b, rfl, rfl⟩; rfl) ?_)
 rintro _ _ ⟨A32, b32, c32, g32a, g32b, rfl, rfl⟩
 have := usK_len (usN (miK [1#8, 0#8, 0#8, 0#8, 0#8, 0#8, 0#8, 0#8, 0#8, 0#8, 0#8, 0#8, 0#8, 0#8, 0#8, 0#8, 0#8, 0#8, 0#8, 0#8, 0#8, 0#8, 0#8, 0#8, 0#8, 0#8, 0#8, 0#8, 0#8, 0#8, 0#8, 0#8] 0 []) (miN 0 []) (miL 0 [] [2#8, 0#8, 0#8, 0#8, 0#8, 0#8, 0#8, 0#8, 0#8, 0#8, 0#8, 0#8, 0#8, 0#8, 0#8, 0#8, 0#8, 0#8, 0#8, 0#8, 0#8, 0#8, 0#8, 0#8, 0#8, 0#8, 0#8, 0#8, 0#8, 0#8, 0#8, 0#8]) (tkT (miK [1#8, 0#8, 0#8, 0#8, 0#8, 0#8, 0#8, 0#8, 0#8, 0#8, 0#8, 0#8, 0#8, 0#8, 0#8, 0#8, 0#8, 0#8, 0#8, 0#8, 0#8, 0#8, 0#8, 0#8, 0#8, 0#8, 0#8, 0#8, 0#8, 0#8, 0#8, 0#8] 0 []) (miI 0 []))) (usL (miK [1#8, 0#8, 0#8, 0#8, 0#8, 0#8, 0#8, 0#8, 0#8, 0#8, 0#8, 0#8, 0#8, 0#8, 0#8, 0#8, 0#8, 0#8, 0#8, 0#8, 0#8, 0#8, 0#8, 0#8, 0#8, 0#8, 0#8, 0#8, 0#8, 0#8, 0#8, 0#8] 0 []) (miN 0 []) (miL 0 [] [2#8, 0#8, 0#8, 0#8, 0#8, 0#8, 0#8, 0#8, 0#8, 0#8, 0#8, 0#8, 0#8, 0#8, 0#8, 0#8, 0#8, 0#8, 0#8, 0#8, 0#8, 0#8, 0#8, 0#8, 0#8, 0#8, 0#8, 0#8, 0#8, 0#8, 0#8, 0#8]) (tkT (miK [1#8, 0#8, 0#8, 0#8, 0#8, 0#8, 0#8, 0#8, 0#8, 0#8, 0#8, 0#8, 0#8, 0#8, 0#8, 0#8, 0#8, 0#8, 0#8, 0#8, 0#8, 0#8, 0#8, 0#8, 0#8, 0#8, 0#8, 0#8, 0#8, 0#8, 0#8, 0#8] 0 []) (miI 0 []))) (tkT (miK [1#8, 0#8, 0#8, 0#8, 0#8, 0#8, 0#8, 0#8, 0#8, 0#8, 0#8, 0#8, 0#8, 0#8, 0#8, 0#8, 0#8, 0#8, 0#8, 0#8, 0#8, 0#8, 0#8, 0#8, 0#8, 0#8, 0#8, 0#8, 0#8, 0#8, 0#8, 0#8] 0 []) (miI 0 [])) (key := (usK (miK [1#8, 0#8, 0#8, 0#8, 0#8, 0#8, 0#8, 0#8, 0#8, 0#8, 0#8, 0#8, 0#8, 0#8, 0#8, 0#8, 0#8, 0#8, 0#8, 0#8, 0#8, 0#8, 0#8, 0#8, 0#8, 0#8, 0#8, 0#8, 0#8, 0#8, 0#8, 0#8] 0 []) (miN 0 []) (miL 0 [] [2#8, 0#8, 0#8, 0#8, 0#8, 0#8, 0#8, 0#8, 0#8, 0#8, 0#8, 0#8, 0#8, 0#8, 0#8, 0#8, 0#8, 0#8, 0#8, 0#8, 0#8, 0#8, 0#8, 0#8, 0#8, 0#8, 0#8, 0#8, 0#8, 0#8, 0#8, 0#8]) (tkT (miK [1#8, 0#8, 0#8, 0#8, 0#8, 0#8, 0#8, 0#8, 0#8, 0#8, 0#8, 0#8, 0#8, 0#8, 0#8, 0#8, 0#8, 0#8, 0#8, 0#8, 0#8, 0#8, 0#8, 0#8, 0#8, 0#8, 0#8, 0#8, 0#8, 0#8, 0#8, 0#8] 0 []) (miI 0 [])))) LN
 refine At.p (some 29) (P_move rfl rfl) ?_
 refine At.p (some 33) (P_extract rfl rfl rfl) ?_
 refine At.p (some 34) (P_extract rfl rfl rfl) ?_
 refine At.p (some 35) (P_extract rfl rfl rfl) ?_
 refine At.s (S_alloc (some 8) 8 (zs := [(List.replicate 32 0#8).map u8V, [iV 0, .slice none 0 0]].flatten) rfl ze40 rfl (fun b8 => ?_))
 refine At.s (S_storeA none (k := 8) (vs := [(usK (usK (miK [1#8, 0#8, 0#8, 0#8, 0#8, 0#8, 0#8, 0#8, 0#8, 0#8, 0#8, 0#8, 0#8, 0#8, 0#8, 0#8, 0#8, 0#8, 0#8, 0#8, 0#8, 0#8, 0#8, 0#8, 0#8, 0#8, 0#8, 0#8, 0#8, 0#8, 0#8, 0#8] 0 []) (miN 0 []) (miL 0 [] [2#8, 0#8, 0#8, 0#8, 0#8, 0#8, 0#8, 0#8, 0#8, 0#8, 0#8, 0#8, 0#8, 0#8, 0#8, 0#8, 0#8, 0#8, 0#8, 0#8, 0#8, 0#8, 0#8, 0#8, 0#8, 0#8, 0#8, 0#8, 0#8, 0#8, 0#8, 0#8]) (tkT (miK [1#8, 0#8, 0#8, 0#8, 0#8, 0#8, 0#8, 0#8, 0#8, 0#8, 0#8, 0#8, 0#8, 0#8, 0#8, 0#8, 0#8, 0#8, 0#8, 0#8, 0#8, 0#8, 0#8, 0#8, 0#8, 0#8, 0#8, 0#8, 0#8, 0#8, 0#8, 0#8] 0 []) (miI 0 []))) (usN (miK [1#8, 0#8, 0#8, 0#8, 0#8, 0#8, 0#8, 0#8, 0#8, 0#8, 0#8, 0#8, 0#8, 0#8, 0#8, 0#8, 0#8, 0#8, 0#8, 0#8, 0#8, 0#8, 0#8, 0#8, 0#8, 0#8, 0#8, 0#8, 0#8, 0#8, 0#8, 0#8] 0 []) (miN 0 []) (miL 0 [] [2#8, 0#8, 0#8, 0#8, 0#8, 0#8, 0#8, 0#8, 0#8, 0#8, 0#8, 0#8, 0#8, 0#8, 0#8, 0#8, 0#8, 0#8, 0#8, 0#8, 0#8, 0#8, 0#8, 0#8, 0#8, 0#8, 0#8, 0#8, 0#8, 0#8, 0#8, 0#8]) (tkT (miK [1#8, 0#8, 0#8, 0#8, 0#8, 0#8, 0#8, 0#8, 0#8, 0#8, 0#8, 0#8, 0#8, 0#8, 0#8, 0#8, 0#8, 0#8, 0#8, 0#8, 0#8, 0#8, 0#8, 0#8, 0#8, 0#8, 0#8, 0#8, 0#8, 0#8, 0#8, 0#8] 0 []) (miI 0 []))) (usL (miK [1#8, 0#8, 0#8, 0#8, 0#8, 0#8, 0#8, 0#8, 0#8, 0#8, 0#8, 0#8, 0#8, 0#8, 0#8, 0#8, 0#8, 0#8, 0#8, 0#8, 0#8, 0#8, 0#8, 0#8, 0#8, 0#8, 0#8, 0#8, 0#8, 0#8, 0#8, 0#8] 0 []) (miN 0 []) (miL 0 [] [2#8, 0#8, 0#8, 0#8, 0#8, 0#8, 0#8, 0#8, 0#8, 0#8, 0#8, 0#8, 0#8, 0#8, 0#8, 0#8, 0#8, 0#8, 0#8, 0#8, 0#8, 0#8, 0#8, 0#8, 0#8, 0#8, 0#8, 0#8, 0#8, 0#8, 0#8, 0#8]) (tkT (miK [1#8, 0#8, 0#8, 0#8, 0#8, 0#8, 0#8, 0#8, 0#8, 0#8, 0#8, 0#8, 0#8, 0#8, 0#8, 0#8, 0#8, 0#8, 0#8, 0#8, 0#8, 0#8, 0#8, 0#8, 0#8, 0#8, 0#8, 0#8, 0#8, 0#8, 0#8, 0#8] 0 []) (miI 0 []))) (tkT (miK [1#8, 0#8, 0#8, 0#8, 0#8, 0#8, 0#8, 0#8, 0#8, 0#8, 0#8, 0#8, 0#8, 0#8, 0#8, 0#8, 0#8, 0#8, 0#8, 0#8, 0#8, 0#8, 0#8, 0#8, 0#8, 0#8, 0#8, 0#8, 0#8, 0#8, 0#8, 0#8] 0 []) (miI 0 []))).map u8V, [iV (usN (usK (miK [1#8, 0#8, 0#8, 0#8, 0#8, 0#8, 0#8, 0#8, 0#8, 0#8, 0#8, 0#8, 0#8, 0#8, 0#8, 0#8, 0#8, 0#8, 0#8, 0#8, 0#8, 0#8, 0#8, 0#8, 0#8, 0#8, 0#8, 0#8, 0#8, 0#8, 0#8, 0#8] 0 []) (miN 0 []) (miL 0 [] [2#8, 0#8, 0#8, 0#8, 0#8, 0#8, 0#8, 0#8, 0#8, 0#8, 0#8, 0#8, 0#8, 0#8, 0#8, 0#8, 0#8, 0#8, 0#8, 0#8, 0#8, 0#8, 0#8, 0#8, 0#8, 0#8, 0#8, 0#8, 0#8, 0#8, 0#8, 0#8]) (tkT (miK [1#8, 0#8, 0#8, 0#8, 0#8, 0#8, 0#8, 0#8, 0#8, 0#8, 0#8, 0#8, 0#8, 0#8, 0#8, 0#8, 0#8, 0#8, 0#8, 0#8, 0#8, 0#8, 0#8, 0#8, 0#8, 0#8, 0#8, 0#8, 0#8, 0#8, 0#8, 0#8] 0 []) (miI 0 []))) (usN (miK [1#8, 0#8, 0#8, 0#8, 0#8, 0#8, 0#8, 0#8, 0#8, 0#8, 0#8, 0#8, 0#8, 0#8, 0#8, 0#8, 0#8, 0#8, 0#8, 0#8, 0#8, 0#8, 0#8, 0#8, 0#8, 0#8, 0#8, 0#8, 0#8, 0#8, 0#8, 0#8] 0 []) (miN 0 []) (miL 0 [] [2#8, 0#8, 0#8, 0#8, 0#8, 0#8, 0#8, 0#8, 0#8, 0#8, 0#8, 0#8, 0#8, 0#8, 0#8, 0#8, 0#8, 0#8, 0#8, 0#8, 0#8, 0#8, 0#8, 0#8, 0#8, 0#8, 0#8, 0#8, 0#8, 0#8, 0#8, 0#8]) (tkT (miK [1#8, 0#8, 0#8, 0#8, 0#8, 0#8, 0#8, 0#8, 0#8, 0#8, 0#8, 0#8, 0#8, 0#8, 0#8, 0#8, 0#8, 0#8, 0#8, 0#8, 0#8, 0#8, 0#8, 0#8, 0#8, 0#8, 0#8, 0#8, 0#8, 0#8, 0#8, 0#8] 0 []) (miI 0 []))) (usL (miK [1#8, 0#8, 0#8, 0#8, 0#8, 0#8, 0#8, 0#8, 0#8, 0#8, 0#8, 0#8, 0#8, 0#8, 0#8, 0#8, 0#8, 0#8, 0#8, 0#8, 0#8, 0#8, 0#8, 0#8, 0#8, 0#8, 0#8, 0#8, 0#8, 0#8, 0#8, 0#8] 0 []) (miN 0 []) (miL 0 [] [2#8, 0#8, 0#8, 0#8, 0#8, 0#8, 0#8, 0#8, 0#8, 0#8, 0#8, 0#8, 0#8, 0#8, 0#8, 0#8, 0#8, 0#8, 0#8, 0#8, 0#8, 0#8, 0#8, 0#8, 0#8, 0#8, 0#8, 0#8, 0#8, 0#8, 0#8, 0#8]) (tkT (miK [1#8, 0#8, 0#8, 0#8, 0#8, 0#8, 0#8, 0#8, 0#8, 0#8, 0#8, 0#8, 0#8, 0#8, 0#8, 0#8, 0#8, 0#8, 0#8, 0#8, 0#8, 0#8, 0#8, 0#8, 0#8, 0#8, 0#8, 0#8, 0#8, 0#8, 0#8, 0#8] 0 []) (miI 0 []))) (tkT (miK [1#8, 0#8, 0#8, 0#8, 0#8, 0#8, 0#8, 0#8, 0#8, 0#8, 0#8, 0#8, 0#8, 0#8, 0#8, 0#8, 0#8, 0#8, 0#8, 0#8, 0#8, 0#8, 0#8, 0#8, 0#8, 0#8, 0#8, 0#8, 0#8, 0#8, 0#8, 0#8] 0 []) (miI 0 []))), .slice A32 ((usL (usK (miK [1#8, 0#8, 0#8, 0#8, 0#8, 0#8, 0#8, 0#8, 0#8, 0#8, 0#8, 0#8, 0#8, 0#8, 0#8, 0#8, 0#8, 0#8, 0#8, 0#8, 0#8, 0#8, 0#8, 0#8, 0#8, 0#8, 0#8, 0#8, 0#8, 0#8, 0#8, 0#8] 0 []) (miN 0 []) (miL 0 [] [2#8, 0#8, 0#8, 0#8, 0#8, 0#8, 0#8, 0#8, 0#8, 0#8, 0#8, 0#8, 0#8, 0#8, 0#8, 0#8, 0#8, 0#8, 0#8, 0#8, 0#8, 0#8, 0#8, 0#8, 0#8, 0#8, 0#8, 0#8, 0#8, 0#8, 0#8, 0#8]) (tkT (miK [1#8, 0#8, 0#8, 0#8, 0#8, 0#8, 0#8, 0#8, 0#8, 0#8, 0#8, 0#8, 0#8, 0#8, 0#8, 0#8, 0#8, 0#8, 0#8, 0#8, 0#8, 0#8, 0#8, 0#8, 0#8, 0#8, 0#8, 0#8, 0#8, 0#8, 0#8, 0#8] 0 []) (miI 0 []))) (usN (miK [1#8, 0#8, 0#8, 0#8, 0#8, 0#8, 0#8, 0#8, 0#8, 0#8, 0#8, 0#8, 0#8, 0#8, 0#8, 0#8, 0#8, 0#8, 0#8, 0#8, 0#8, 0#8, 0#8, 0#8, 0#8, 0#8, 0#8, 0#8, 0#8, 0#8, 0#8, 0#8] 0 []) (miN 0 []) (miL 0 [] [2#8, 0#8, 0#8, 0#8, 0#8, 0#8, 0#8, 0#8, 0#8, 0#8, 0#8, 0#8, 0#8, 0#8, 0#8, 0#8, 0#8, 0#8, 0#8, 0#8, 0#8, 0#8, 0#8, 0#8, 0#8, 0#8, 0#8, 0#8, 0#8, 0#8, 0#8, 0#8]) (tkT (miK [1#8, 0#8, 0#8, 0#8, 0#8, 0#8, 0#8, 0#8, 0#8, 0#8, 0#8, 0#8, 0#8, 0#8, 0#8, 0#8, 0#8, 0#8, 0#8, 0#8, 0#8, 0#8, 0#8, 0#8, 0#8, 0#8, 0#8, 0#8, 0#8, 0#8, 0#8, 0#8] 0 []) (miI 0 []))) (usL (miK [1#8, 0#8, 0#8, 0#8, 0#8, 0#8, 0#8, 0#8, 0#8, 0#8, 0#8, 0#8, 0#8, 0#8, 0#8, 0#8, 0#8, 0#8, 0#8, 0#8, 0#8, 0#8, 0#8, 0#8, 0#8, 0#8, 0#8, 0#8, 0#8, 0#8, 0#8, 0#8] 0 []) (miN 0 []) (miL 0 [] [2#8, 0#8, 0#8, 0#8, 0#8, 0#8, 0#8, 0#8, 0#8, 0#8, 0#8, 0#8, 0#8, 0#8, 0#8, 0#8, 0#8, 0#8, 0#8, 0#8, 0#8, 0#8, 0#8, 0#8, 0#8, 0#8, 0#8, 0#8, 0#8, 0#8, 0#8, 0#8]) (tkT (miK [1#8, 0#8, 0#8, 0#8, 0#8, 0#8, 0#8, 0#8, 0#8, 0#8, 0#8, 0#8, 0#8, 0#8, 0#8, 0#8, 0#8, 0#8, 0#8, 0#8, 0#8, 0#8, 0#8, 0#8, 0#8, 0#8, 0#8, 0#8, 0#8, 0#8, 0#8, 0#8] 0 []) (miI 0 []))) (tkT (miK [1#8, 0#8, 0#8, 0#8, 0#8, 0#8, 0#8, 0#8, 0#8, 0#8, 0#8, 0#8, 0#8, 0#8, 0#8, 0#8, 0#8, 0#8, 0#8, 0#8, 0#8, 0#8, 0#8, 0#8, 0#8, 0#8, 0#8, 0#8, 0#8, 0#8, 0#8, 0#8] 0 []) (miI 0 []))).length) c32]].flatten) rfl rfl rfl (by rw [sz40]; exact congrArg some LN) rfl (one_flatc (one_map (fun _ => rfl)) (one_flatc (one_cons rfl (one_cons rfl one_nil)) one_flat0)) NG rfl LN ?_)
 refine At.p (some 9) (P_assign rfl rfl) ?_
 refine At.p (some 10) (P_assign rfl rfl) ?_
 refine At.nil ?_
 refine At.next ?_
 refine At.seq ?_
 obtain ⟨u1, u2, u3, u4, u5, u6, u7⟩ := mints_known [1#8, 0#8, 0#8, 0#8, 0#8, 0#8, 0#8, 0#8, 0#8, 0#8, 0#8, 0#8, 0#8, 0#8, 0#8, 0#8, 0#8, 0#8, 0#8, 0#8, 0#8, 0#8, 0#8, 0#8, 0#8, 0#8, 0#8, 0#8, 0#8, 0#8, 0#8, 0#8] [2#8, 0#8, 0#8, 0#8, 0#8, 0#8, 0#8, 0#8, 0#8, 0#8, 0#8, 0#8, 0#8, 0#8, 0#8, 0#8, 0#8, 0#8, 0#8, 0#8, 0#8, 0#8, 0#8, 0#8, 0#8, 0#8, 0#8, 0#8, 0#8, 0#8, 0#8, 0#8] rfl
 refine At.region ?_
 refine At.p (some 36) (P_move rfl rfl) ?_
 refine At.p (some 37) (P_cmp rfl rfl rfl rfl rfl rfl) ?_
 refine At.p (some 38) (P_move rfl rfl) ?_
 refine At.gy (t := 38) rfl (by first | exact beq_iff_eq.2 u1 | exact beq_iff_eq.2 u2 | (rw [u3]; rfl) | exact beq_iff_eq.2 u4 | exact beq_iff_eq.2 u5 | (rw [u6]; rfl) | exact beq_iff_eq.2 u7) rfl rfl ?_
 refine At.p (some 39) (P_move rfl rfl) ?_
 refine At.gy (t := 38) rfl (by first | exact beq_iff_eq.2 u1 | exact beq_iff_eq.2 u2 | (rw [u3]; rfl) | exact beq_iff_eq.2 u4 | exact beq_iff_eq.2 u5 | (rw [u6]; rfl) | exact beq_iff_eq.2 u7) rfl rfl ?_
 refine At.p (some 40) (P_cmp rfl rfl rfl rfl rfl rfl) ?_
 refine At.p (some 41) (P_pick_t rfl rfl (by first | exact beq_iff_eq.2 u1 | exact beq_iff_eq.2 u2 | (rw [u3]; rfl) | exact beq_iff_eq.2 u4 | exact beq_iff_eq.2 u5 | (rw [u6]; rfl) | exact beq_iff_eq.2 u7) rfl) ?_
 refine At.p (some 42) (P_move rfl rfl) ?_
 refine At.gy (t := 42) rfl (by first | exact beq_iff_eq.2 u1 | exact beq_iff_eq.2 u2 | (rw [u3]; rfl) | exact beq_iff_eq.2 u4 | exact beq_iff_eq.2 u5 | (rw [u6]; rfl) | exact beq_iff_eq.2 u7) rfl rfl ?_
 refine At.p (some 43) (P_move rfl rfl) ?_
 refine At.gy (t := 42) rfl (by first | exact beq_iff_eq.2 u1 | exact beq_iff_eq.2 u2 | (rw [u3]; rfl) | exact beq_iff_eq.2 u4 | exact beq_iff_eq.2 u5 | (rw [u6]; rfl) | exact beq_iff_eq.2 u7) rfl rfl ?_
 refine At.p (some 44) (P_cmp rfl rfl rfl rfl rfl rfl) ?_
 refine At.p (some 45) (P_pick_t rfl rfl (by first | exact beq_iff_eq.2 u1 | exact beq_iff_eq.2 u2 | (rw [u3]; rfl) | exact beq_iff_eq.2 u4 | exact beq_iff_eq.2 u5 | (rw [u6]; rfl) | exact beq_iff_eq.2 u7) rfl) ?_
 refine At.p (some 46) (P_move rfl rfl) ?_
 refine At.gy (t := 46) rfl (by first | exact beq_iff_eq.2 u1 | exact beq_iff_eq.2 u2 | (rw [u3]; rfl) | exact beq_iff_eq.2 u4 | exact beq_iff_eq.2 u5 | (rw [u6]; rfl) | exact beq_iff_eq.2 u7) rfl rfl ?_
 refine At.p (some 47) (P_move rfl rfl) ?_
 refine At.gy (t := 46) rfl (by first | exact beq_iff_eq.2 u1 | exact beq_iff_eq.2 u2 | (rw [u3]; rfl) | exact beq_iff_eq.2 u4 | exact beq_iff_eq.2 u5 | (rw [u6]; rfl) | exact beq_iff_eq.2 u7) rfl rfl ?_
 refine At.p (some 48) (P_cmp rfl rfl rfl rfl rfl rfl) ?_
 refine At.p (some 49) (P_pick_t rfl rfl (by first | exact beq_iff_eq.2 u1 | exact beq_iff_eq.2 u2 | (rw [u3]; rfl) | exact beq_iff_eq.2 u4 | exact beq_iff_eq.2 u5 | (rw [u6]; rfl) | exact beq_iff_eq.2 u7) rfl) ?_
 refine At.p (some 50) (P_move rfl rfl) ?_
 refine At.gy (t := 50) rfl (by first | exact beq_iff_eq.2 u1 | exact beq_iff_eq.2 u2 | (rw [u3]; rfl) | exact beq_iff_eq.2 u4 | exact beq_iff_eq.2 u5 | (rw [u6]; rfl) | exact beq_iff_eq.2 u7) rfl rfl ?_
 refine At.p (some 51) (P_move rfl rfl) ?_
 refine At.gy (t := 50) rfl (by first | exact beq_iff_eq.2 u1 | exact beq_iff_eq.2 u2 | (rw [u3]; rfl) | exact beq_iff_eq.2 u4 | exact beq_iff_eq.2 u5 | (rw [u6]; rfl) | exact beq_iff_eq.2 u7) rfl rfl ?_
 refine At.p (some 52) (P_len_sl rfl rfl ⟨_, Try.underlying22⟩ rfl) ?_
 refine At.gy (t := 50) rfl (by first | exact beq_iff_eq.2 u1 | exact beq_iff_eq.2 u2 | (rw [u3]; rfl) | exact beq_iff_eq.2 u4 | exact beq_iff_eq.2 u5 | (rw [u6]; rfl) | exact beq_iff_eq.2 u7) rfl rfl ?_
 refine At.p (some 53) (P_cmp rfl rfl rfl rfl rfl rfl) ?_
 refine At.p (some 54) (P_pick_t rfl rfl (by first | exact beq_iff_eq.2 u1 | exact beq_iff_eq.2 u2 | (rw [u3]; rfl) | exact beq_iff_eq.2 u4 | exact beq_iff_eq.2 u5 | (rw [u6]; rfl) | exact beq_iff_eq.2 u7) rfl) ?_
 refine At.p (some 55) (P_move rfl rfl) ?_
 refine At.gy (t := 55) rfl (by first | exact beq_iff_eq.2 u1 | exact beq_iff_eq.2 u2 | (rw [u3]; rfl) | exact beq_iff_eq.2 u4 | exact beq_iff_eq.2 u5 | (rw [u6]; rfl) | exact beq_iff_eq.2 u7) rfl rfl ?_
 refine At.q (some 56) (Q_loadA (k := 1) rfl rfl Try.underlying40 rfl sz40 LN rfl) ?_
 refine At.gy (t := 55) rfl (by first | exact beq_iff_eq.2 u1 | exact beq_iff_eq.2 u2 | (rw [u3]; rfl) | exact beq_iff_eq.2 u4 | exact beq_iff_eq.2 u5 | (rw [u6]; rfl) | exact beq_iff_eq.2 u7) rfl rfl ?_
 refine At.s (S_callV (some 57) [(15, _)] [] (vs := [_]) rfl en31 rfl (VN (by simp) rfl View.all V0) (by simp) (c_KnownN (key := (miK [1#8, 0#8, 0#8, 0#8, 0#8, 0#8, 0#8, 0#8, 0#8, 0#8, 0#8, 0#8, 0#8, 0#8, 0#8, 0#8, 0#8, 0#8, 0#8, 0#8, 0#8, 0#8, 0#8, 0#8, 0#8, 0#8, 0#8, 0#8, 0#8, 0#8, 0#8, 0#8] 0 [])) (next := (miN 0 [])) (L := (miL 0 [] [2#8, 0#8, 0#8, 0#8, 0#8, 0#8, 0#8, 0#8, 0#8, 0#8, 0#8, 0#8, 0#8, 0#8, 0#8, 0#8, 0#8, 0#8, 0#8, 0#8, 0#8, 0#8, 0#8, 0#8, 0#8, 0#8, 0#8, 0#8, 0#8, 0#8, 0#8, 0#8])) (A := A15) (n := ((miL 0 [] [2#8, 0#8, 0#8, 0#8, 0#8, 0#8, 0#8, 0#8, 0#8, 0#8, 0#8, 0#8, 0#8, 0#8, 0#8, 0#8, 0#8, 0#8, 0#8, 0#8, 0#8, 0#8, 0#8, 0#8, 0#8, 0#8, 0#8, 0#8, 0#8, 0#8, 0#8, 0#8]).length)) (c := c15) (b := b15) (q := 0) LN LN (fun h => g15a (by omega)) OG) (by rintro _ _ ⟨A57, c57, rfl, rfl⟩; rfl) ?_)
 rintro _ _ ⟨A57, c57, rfl, rfl⟩
 refine At.gy (t := 55) rfl (by first | exact beq_iff_eq.2 u1 | exact beq_iff_eq.2 u2 | (rw [u3]; rfl) | exact beq_iff_eq.2 u4 | exact beq_iff_eq.2 u5 | (rw [u6]; rfl) | exact beq_iff_eq.2 u7) rfl rfl ?_
 refine At.p (some 58) (P_len_sl rfl rfl ⟨_, Try.underlying60⟩ rfl) ?_
 refine At.gy (t := 55) rfl (by first | exact beq_iff_eq.2 u1 | exact beq_iff_eq.2 u2 | (rw [u3]; rfl) | exact beq_iff_eq.2 u4 | exact beq_iff_eq.2 u5 | (rw [u6]; rfl) | exact beq_iff_eq.2 u7) rfl rfl ?_
 refine At.p (some 59) (P_cmp rfl rfl rfl rfl rfl rfl) ?_
 refine At.p (some 60) (P_pick_t rfl rfl (by first | exact beq_iff_eq.2 u1 | exact beq_iff_eq.2 u2 | (rw [u3]; rfl) | exact beq_iff_eq.2 u4 | exact beq_iff_eq.2 u5 | (rw [u6]; rfl) | exact beq_iff_eq.2 u7) rfl) ?_
 refine At.p (some 61) (P_move rfl rfl) ?_
 refine At.gy (t := 61) rfl (by first | exact beq_iff_eq.2 u1 | exact beq_iff_eq.2 u2 | (rw [u3]; rfl) | exact beq_iff_eq.2 u4 | exact beq_iff_eq.2 u5 | (rw [u6]; rfl) | exact beq_iff_eq.2 u7) rfl rfl ?_
 refine At.p (some 62) (P_move rfl rfl) ?_
 refine At.gy (t := 61) rfl (by first | exact beq_iff_eq.2 u1 | exact beq_iff_eq.2 u2 | (rw [u3]; rfl) | exact beq_iff_eq.2 u4 | exact beq_iff_eq.2 u5 | (rw [u6]; rfl) | exact beq_iff_eq.2 u7) rfl rfl ?_
 refine At.p (some 63) (P_cmp rfl rfl rfl rfl rfl rfl) ?_
 refine At.p (some 64) (P_pick_t rfl rfl (by first | exact beq_iff_eq.2 u1 | exact beq_iff_eq.2 u2 | (rw [u3]; rfl) | exact beq_iff_eq.2 u4 | exact beq_iff_eq.2 u5 | (rw [u6]; rfl) | exact beq_iff_eq.2 u7) rfl) ?_
 refine At.p (some 0) (P_assign rfl rfl) ?_
 refine At.nil ?_
 refine At.next ?_
 refine At.ret ?_
 have hq0 : ((usE (usK (miK [1#8, 0#8, 0#8, 0#8, 0#8, 0#8, 0#8, 0#8, 0#8, 0#8, 0#8, 0#8, 0#8, 0#8, 0#8, 0#8, 0#8, 0#8, 0#8, 0#8, 0#8, 0#8, 0#8, 0#8, 0#8, 0#8, 0#8, 0#8, 0#8, 0#8, 0#8, 0#8] 0 []) (miN 0 []) (miL 0 [] [2#8, 0#8, 0#8, 0#8, 0#8, 0#8, 0#8, 0#8, 0#8, 0#8, 0#8, 0#8, 0#8, 0#8, 0#8, 0#8, 0#8, 0#8, 0#8, 0#8, 0#8, 0#8, 0#8, 0#8, 0#8, 0#8, 0#8, 0#8, 0#8, 0#8, 0#8, 0#8]) (tkT (miK [1#8, 0#8, 0#8, 0#8, 0#8, 0#8, 0#8, 0#8, 0#8, 0#8, 0#8, 0#8, 0#8, 0#8, 0#8, 0#8, 0#8, 0#8, 0#8, 0#8, 0#8, 0#8, 0#8, 0#8, 0#8, 0#8, 0#8, 0#8, 0#8, 0#8, 0#8, 0#8] 0 []) (miI 0 []))) (usN (miK [1#8, 0#8, 0#8, 0#8, 0#8, 0#8, 0#8, 0#8, 0#8, 0#8, 0#8, 0#8, 0#8, 0#8, 0#8, 0#8, 0#8, 0#8, 0#8, 0#8, 0#8, 0#8, 0#8, 0#8, 0#8, 0#8, 0#8, 0#8, 0#8, 0#8, 0#8, 0#8] 0 []) (miN 0 []) (miL 0 [] [2#8, 0#8, 0#8, 0#8, 0#8, 0#8, 0#8, 0#8, 0#8, 0#8, 0#8, 0#8, 0#8, 0#8, 0#8, 0#8, 0#8, 0#8, 0#8, 0#8, 0#8, 0#8, 0#8, 0#8, 0#8, 0#8, 0#8, 0#8, 0#8, 0#8, 0#8, 0#8]) (tkT (miK [1#8, 0#8, 0#8, 0#8, 0#8, 0#8, 0#8, 0#8, 0#8, 0#8, 0#8, 0#8, 0#8, 0#8, 0#8, 0#8, 0#8, 0#8, 0#8, 0#8, 0#8, 0#8, 0#8, 0#8, 0#8, 0#8, 0#8, 0#8, 0#8, 0#8, 0#8, 0#8] 0 []) (miI 0 []))) (usL (miK [1#8, 0#8, 0#8, 0#8, 0#8, 0#8, 0#8, 0#8, 0#8, 0#8, 0#8, 0#8, 0#8, 0#8, 0#8, 0#8, 0#8, 0#8, 0#8, 0#8, 0#8, 0#8, 0#8, 0#8, 0#8, 0#8, 0#8, 0#8, 0#8, 0#8, 0#8, 0#8] 0 []) (miN 0 []) (miL 0 [] [2#8, 0#8, 0#8, 0#8, 0#8, 0#8, 0#8, 0#8, 0#8, 0#8, 0#8, 0#8, 0#8, 0#8, 0#8, 0#8, 0#8, 0#8, 0#8, 0#8, 0#8, 0#8, 0#8, 0#8, 0#8, 0#8, 0#8, 0#8, 0#8, 0#8, 0#8, 0#8]) (tkT (miK [1#8, 0#8, 0#8, 0#8, 0#8, 0#8, 0#8, 0#8, 0#8, 0#8, 0#8, 0#8, 0#8, 0#8, 0#8, 0#8, 0#8, 0#8, 0#8, 0#8, 0#8, 0#8, 0#8, 0#8, 0#8, 0#8, 0#8, 0#8, 0#8, 0#8, 0#8, 0#8] 0 []) (miI 0 []))) (tkT (miK [1#8, 0#8, 0#8, 0#8, 0#8, 0#8, 0#8, 0#8, 0#8, 0#8, 0#8, 0#8, 0#8, 0#8, 0#8, 0#8, 0#8, 0#8, 0#8, 0#8, 0#8, 0#8, 0#8, 0#8, 0#8, 0#8, 0#8, 0#8, 0#8, 0#8, 0#8, 0#8] 0 []) (miI 0 []))) == 11) = true := (by first | exact beq_iff_eq.2 u1 | exact beq_iff_eq.2 u2 | (rw [u3]; rfl) | exact beq_iff_eq.2 u4 | exact beq_iff_eq.2 u5 | (rw [u6]; rfl) | exact beq_iff_eq.2 u7)
 refine At.give (.inl rfl) [] (rows' := []) (vs := [_]) rfl ⟨rfl, trivial⟩ rfl (by simp) (by simp) ⟨(by first | (rw [hq0]; try rfl; done) | (rw [← hq0]; try rfl; done) | (simp only [hq0]; try rfl; done) | (simp only [← hq0]; try rfl; done) | rfl), (by first | (rw [hq0]; try rfl; done) | (rw [← hq0]; try rfl; done) | (simp only [hq0]; try rfl; done) | (simp only [← hq0]; try rfl; done) | rfl)⟩

set_option maxHeartbeats 2000000 in
theorem l_TKeys {a : List (BitVec 8)} {b : List (BitVec 8)} {id : Int} (ha : a.length = 32) (hb : b.length = 32) :
  Con Try.prog 7 [aggK a, aggK b, iV id] [] (fun v rs => v = .bool true ∧ rs = []) := by
 refine Con.enter Try.func7 Try.ntmps7 (Nat.le_of_ble_eq_true rfl) rfl fun w => ?_
 refine At.seq ?_
 refine At.region ?_
 refine At.s (S_box (some 3) 3 (zs := (a).map u8V) rfl rfl rfl (fun b3 => ?_))
 refine At.s (S_box (some 4) 4 (zs := (b).map u8V) rfl rfl rfl (fun b4 => ?_))
 refine At.p (some 6) (P_assign rfl rfl) ?_
 refine At.nil ?_
 refine At.next ?_
 refine At.seq ?_
 refine At.region ?_
 refine At.p (some 17) (P_move rfl rfl) ?_
 refine At.p (some 18) (P_conv_iw UK.u64 rfl Try.underlying3 Try.underlying49 rfl) ?_
 refine At.p (some 19) (P_rem_w UK.u64 (b := 8#64) rfl rfl rfl (by decide)) ?_
 obtain ⟨k20, hk20, hek20, hdk20⟩ := umod_c ((BitVec.ofInt 64 id)) 8#64 (by decide) (by decide)
 have hk20 : k20 < 8 := hk20
 refine At.p (some 20) (P_conv_WiE hek20 rfl Try.underlying49 Try.underlying3 rfl) ?_
 refine At.p (some 7) (P_assign rfl rfl) ?_
 refine At.nil ?_
 refine At.next ?_
 refine At.seq ?_
 refine At.bBruteG [6, 7] (fun fr H => ∃ (b8 : Nat) (b9 : Nat), fr = frOf [(3, ptr b3 0), (4, ptr b4 0), (6, .bool false), (7, iV (k20 : Int)), (8, ptr b8 0), (9, ptr b9 0)] ∧ H = hOf [(3, ⟨true, b3, 0, 23, (a).map u8V, 0⟩), (4, ⟨true, b4, 0, 23, (b).map u8V, 0⟩), (8, ⟨true, b8, 0, 40, [(a).map u8V, [iV 0, .slice none 0 0]].flatten, 0⟩), (9, ⟨true, b9, 0, 40, [(b).map u8V, [iV 0, .slice none 0 0]].flatten, 0⟩)] ∧ True) (by kernel_rfl) ?_ ?_
 ·
  intro Kb hKb G hGi hGo
  have hG2_0 (b8 : Nat) (b9 : Nat) : G 0 #[true, true, true, true, true, true, true, true] (frOf [(3, ptr b3 0), (4, ptr b4 0), (6, .bool false), (7, iV (k20 : Int)), (8, ptr b8 0), (9, ptr b9 0)]) (hOf [(3, ⟨true, b3, 0, 23, (a).map u8V, 0⟩), (4, ⟨true, b4, 0, 23, (b).map u8V, 0⟩), (8, ⟨true, b8, 0, 40, [(a).map u8V, [iV 0, .slice none 0 0]].flatten, 0⟩), (9, ⟨true, b9, 0, 40, [(b).map u8V, [iV 0, .slice none 0 0]].flatten, 0⟩)]) := by
   refine hGo ?_
   refine At.bEnd (by kernel_rfl) ?_
   refine At.next ?_
   exact hKb _ _ ⟨b8, b9, rfl, rfl, trivial⟩
  have hG2_1 (b8 : Nat) (b9 : Nat) : G 1 #[true, true, true, true, true, true, true, false] (frOf [(3, ptr b3 0), (4, ptr b4 0), (6, .bool false), (7, iV (k20 : Int)), (8, ptr b8 0), (9, ptr b9 0), (24, .agg ([(b).map u8V, [iV 0, .slice none 0 0]].flatten).toArray)]) (hOf [(3, ⟨true, b3, 0, 23, (a).map u8V, 0⟩), (4, ⟨true, b4, 0, 23, (b).map u8V, 0⟩), (8, ⟨true, b8, 0, 40, [(a).map u8V, [iV 0, .slice none 0 0]].flatten, 0⟩), (9, ⟨true, b9, 0, 40, [(List.replicate 32 0#8).map u8V, [iV 0, .slice none 0 0]].flatten, 0⟩)]) := by
   refine hGo ?_
   refine At.bStep [7] (by kernel_rfl) (by simp) ?_
   refine At.bS true (by kernel_rfl) (S_storeA none (k := 9) (vs := [(b).map u8V, [iV 0, .slice none 0 0]].flatten) rfl rfl rfl (by rw [sz40]; exact congrArg some LN) rfl (one_flatc (one_map (fun _ => rfl)) (one_flatc (one_cons rfl (one_cons rfl one_nil)) one_flat0)) NG rfl LN ?_)
   exact At.into (hGi (hG2_0 b8 b9)) rfl rfl
  have hG2_2 (b8 : Nat) (b9 : Nat) : G 2 #[true, true, true, true, true, true, false, false] (frOf [(3, ptr b3 0), (4, ptr b4 0), (6, .bool false), (7, iV (k20 : Int)), (8, ptr b8 0), (9, ptr b9 0), (22, .agg ([(a).map u8V, [iV 0, .slice none 0 0]].flatten).toArray), (24, .agg ([(b).map u8V, [iV 0, .slice none 0 0]].flatten).toArray)]) (hOf [(3, ⟨true, b3, 0, 23, (a).map u8V, 0⟩), (4, ⟨true, b4, 0, 23, (b).map u8V, 0⟩), (8, ⟨true, b8, 0, 40, [(List.replicate 32 0#8).map u8V, [iV 0, .slice none 0 0]].flatten, 0⟩), (9, ⟨true, b9, 0, 40, [(List.replicate 32 0#8).map u8V, [iV 0, .slice none 0 0]].flatten, 0⟩)]) := by
   clear hG2_0
   refine hGo ?_
   refine At.bStep [6] (by kernel_rfl) (by simp) ?_
   refine At.bS true (by kernel_rfl) (S_storeA none (k := 8) (vs := [(a).map u8V, [iV 0, .slice none 0 0]].flatten) rfl rfl rfl (by rw [sz40]; exact congrArg some LN) rfl (one_flatc (one_map (fun _ => rfl)) (one_flatc (one_cons rfl (one_cons rfl one_nil)) one_flat0)) NG rfl LN ?_)
   exact At.into (hGi (hG2_1 b8 b9)) rfl rfl
  have hG2_3 (b8 : Nat) : G 3 #[true, true, true, true, true, false, false, false] (frOf [(3, ptr b3 0), (4, ptr b4 0), (6, .bool false), (7, iV (k20 : Int)), (8, ptr b8 0), (22, .agg ([(a).map u8V, [iV 0, .slice none 0 0]].flatten).toArray), (24, .agg ([(b).map u8V, [iV 0, .slice none 0 0]].flatten).toArray)]) (hOf [(3, ⟨true, b3, 0, 23, (a).map u8V, 0⟩), (4, ⟨true, b4, 0, 23, (b).map u8V, 0⟩), (8, ⟨true, b8, 0, 40, [(List.replicate 32 0#8).map u8V, [iV 0, .slice none 0 0]].flatten, 0⟩)]) := by
   clear hG2_0 hG2_1
   refine hGo ?_
   refine At.bStep [5] (by kernel_rfl) (by simp) ?_
   refine At.bS false (by kernel_rfl) (S_alloc (some 9) 9 (zs := [(List.replicate 32 0#8).map u8V, [iV 0, .slice none 0 0]].flatten) rfl ze40 rfl (fun b9 => ?_))
   exact At.into (hGi (hG2_2 b8 b9)) rfl rfl
  have hG2_4 (b9 : Nat) : G 3 #[true, true, true, true, false, true, false, false] (frOf [(3, ptr b3 0), (4, ptr b4 0), (6, .bool false), (7, iV (k20 : Int)), (9, ptr b9 0), (22, .agg ([(a).map u8V, [iV 0, .slice none 0 0]].flatten).toArray), (24, .agg ([(b).map u8V, [iV 0, .slice none 0 0]].flatten).toArray)]) (hOf [(3, ⟨true, b3, 0, 23, (a).map u8V, 0⟩), (4, ⟨true, b4, 0, 23, (b).map u8V, 0⟩), (9, ⟨true, b9, 0, 40, [(List.replicate 32 0#8).map u8V, [iV 0, .slice none 0 0]].flatten, 0⟩)]) := by
   clear hG2_0 hG2_1 hG2_3
   refine hGo ?_
   refine At.bStep [4] (by kernel_rfl) (by simp) ?_
   refine At.bS false (by kernel_rfl) (S_alloc (some 8) 8 (zs := [(List.replicate 32 0#8).map u8V, [iV 0, .slice none 0 0]].flatten) rfl ze40 rfl (fun b8 => ?_))
   exact At.into (hGi (hG2_2 b8 b9)) rfl rfl
  have hG2_5  : G 4 #[true, true, true, true, false, false, false, false] (frOf [(3, ptr b3 0), (4, ptr b4 0), (6, .bool false), (7, iV (k20 : Int)), (22, .agg ([(a).map u8V, [iV 0, .slice none 0 0]].flatten).toArray), (24, .agg ([(b).map u8V, [iV 0, .slice none 0 0]].flatten).toArray)]) (hOf [(3, ⟨true, b3, 0, 23, (a).map u8V, 0⟩), (4, ⟨true, b4, 0, 23, (b).map u8V, 0⟩)]) := by
   clear hG2_0 hG2_1 hG2_2
   refine hGo ?_
   refine At.bStep [4, 5] (by kernel_rfl) (by simp) ?_
   refine ⟨?_, ?_⟩
   ·
    refine At.bS false (by kernel_rfl) (S_alloc (some 8) 8 (zs := [(List.replicate 32 0#8).map u8V, [iV 0, .slice none 0 0]].flatten) rfl ze40 rfl (fun b8 => ?_))
    exact At.into (hGi (hG2_3 b8)) rfl rfl
   ·
    refine At.bS false (by kernel_rfl) (S_alloc (some 9) 9 (zs := [(List.replicate 32 0#8).map u8V, [iV 0, .slice none 0 0]].flatten) rfl ze40 rfl (fun b9 => ?_))
    exact At.into (hGi (hG2_4 b9)) rfl rfl
  have hG2_6 (b8 : Nat) (b9 : Nat) : G 4 #[true, true, false, false, true, true, false, false] (frOf [(3, ptr b3 0), (4, ptr b4 0), (6, .bool false), (7, iV (k20 : Int)), (8, ptr b8 0), (9, ptr b9 0), (22, .agg ([(a).map u8V, [iV 0, .slice none 0 0]].flatten).toArray)]) (hOf [(3, ⟨true, b3, 0, 23, (a).map u8V, 0⟩), (4, ⟨true, b4, 0, 23, (b).map u8V, 0⟩), (8, ⟨true, b8, 0, 40, [(List.replicate 32 0#8).map u8V, [iV 0, .slice none 0 0]].flatten, 0⟩), (9, ⟨true, b9, 0, 40, [(List.replicate 32 0#8).map u8V, [iV 0, .slice none 0 0]].flatten, 0⟩)]) := by
   clear hG2_0 hG2_1 hG2_3 hG2_4 hG2_5
   refine hGo ?_
   refine At.bStep [2] (by kernel_rfl) (by simp) ?_
   refine At.bSQ (some 23) (Q_loadA (k := 4) rfl rfl Try.underlying23 rfl sz23 LN rfl) ?_
   refine At.bC  3 (some 24) [] (vs := [_]) (by kernel_rfl) (by kernel_rfl) rfl en24 rfl V0 (c_TNew (key := b) LN) ?_
   exact At.into (hGi (hG2_2 b8 b9)) rfl rfl
  have hG2_7 (b8 : Nat) : G 5 #[true, true, false, false, true, false, false, false] (frOf [(3, ptr b3 0), (4, ptr b4 0), (6, .bool false), (7, iV (k20 : Int)), (8, ptr b8 0), (22, .agg ([(a).map u8V, [iV 0, .slice none 0 0]].flatten).toArray)]) (hOf [(3, ⟨true, b3, 0, 23, (a).map u8V, 0⟩), (4, ⟨true, b4, 0, 23, (b).map u8V, 0⟩), (8, ⟨true, b8, 0, 40, [(List.replicate 32 0#8).map u8V, [iV 0, .slice none 0 0]].flatten, 0⟩)]) := by
   clear hG2_0 hG2_1 hG2_2 hG2_4 hG2_5
   refine hGo ?_
   refine At.bStep [2, 5] (by kernel_rfl) (by simp) ?_
   refine ⟨?_, ?_⟩
   ·
    refine At.bSQ (some 23) (Q_loadA (k := 4) rfl rfl Try.underlying23 rfl sz23 LN rfl) ?_
    refine At.bC  3 (some 24) [] (vs := [_]) (by kernel_rfl) (by kernel_rfl) rfl en24 rfl V0 (c_TNew (key := b) LN) ?_
    exact At.into (hGi (hG2_3 b8)) rfl rfl
   ·
    refine At.bS false (by kernel_rfl) (S_alloc (some 9) 9 (zs := [(List.replicate 32 0#8).map u8V, [iV 0, .slice none 0 0]].flatten) rfl ze40 rfl (fun b9 => ?_))
    exact At.into (hGi (hG2_6 b8 b9)) rfl rfl
  have hG2_8 (b9 : Nat) : G 5 #[true, true, false, false, false, true, false, false] (frOf [(3, ptr b3 0), (4, ptr b4 0), (6, .bool false), (7, iV (k20 : Int)), (9, ptr b9 0), (22, .agg ([(a).map u8V, [iV 0, .slice none 0 0]].flatten).toArray)]) (hOf [(3, ⟨true, b3, 0, 23, (a).map u8V, 0⟩), (4, ⟨true, b4, 0, 23, (b).map u8V, 0⟩), (9, ⟨true, b9, 0, 40, [(List.replicate 32 0#8).map u8V, [iV 0, .slice none 0 0]].flatten, 0⟩)]) := by
   clear hG2_0 hG2_1 hG2_2 hG2_3 hG2_5 hG2_7
   refine hGo ?_
   refine At.bStep [2, 4] (by kernel_rfl) (by simp) ?_
   refine ⟨?_, ?_⟩
   ·
    refine At.bSQ (some 23) (Q_loadA (k := 4) rfl rfl Try.underlying23 rfl sz23 LN rfl) ?_
    refine At.bC  3 (some 24) [] (vs := [_]) (by kernel_rfl) (by kernel_rfl) rfl en24 rfl V0 (c_TNew (key := b) LN) ?_
    exact At.into (hGi (hG2_4 b9)) rfl rfl
   ·
    refine At.bS false (by kernel_rfl) (S_alloc (some 8) 8 (zs := [(List.replicate 32 0#8).map u8V, [iV 0, .slice none 0 0]].flatten) rfl ze40 rfl (fun b8 => ?_))
    exact At.into (hGi (hG2_6 b8 b9)) rfl rfl
  have hG2_9  : G 6 #[true, true, false, false, false, false, false, false] (frOf [(3, ptr b3 0), (4, ptr b4 0), (6, .bool false), (7, iV (k20 : Int)), (22, .agg ([(a).map u8V, [iV 0, .slice none 0 0]].flatten).toArray)]) (hOf [(3, ⟨true, b3, 0, 23, (a).map u8V, 0⟩), (4, ⟨true, b4, 0, 23, (b).map u8V, 0⟩)]) := by
   clear hG2_0 hG2_1 hG2_2 hG2_3 hG2_4 hG2_6
   refine hGo ?_
   refine At.bStep [2, 4, 5] (by kernel_rfl) (by simp) ?_
   refine ⟨?_, ?_, ?_⟩
   ·
    refine At.bSQ (some 23) (Q_loadA (k := 4) rfl rfl Try.underlying23 rfl sz23 LN rfl) ?_
    refine At.bC  3 (some 24) [] (vs := [_]) (by kernel_rfl) (by kernel_rfl) rfl en24 rfl V0 (c_TNew (key := b) LN) ?_
    exact At.into (hGi (hG2_5 )) rfl rfl
   ·
    refine At.bS false (by kernel_rfl) (S_alloc (some 8) 8 (zs := [(List.replicate 32 0#8).map u8V, [iV 0, .slice none 0 0]].flatten) rfl ze40 rfl (fun b8 => ?_))
    exact At.into (hGi (hG2_7 b8)) rfl rfl
   ·
    refine At.bS false (by kernel_rfl) (S_alloc (some 9) 9 (zs := [(List.replicate 32 0#8).map u8V, [iV 0, .slice none 0 0]].flatten) rfl ze40 rfl (fun b9 => ?_))
    exact At.into (hGi (hG2_8 b9)) rfl rfl
  clear hG2_0 hG2_1 hG2_2 hG2_3 hG2_4 hG2_5 hG2_6 hG2_7 hG2_8
  refine hGo ?_
  refine At.bQ  0 (some 21) (Q_loadA (k := 3) rfl rfl Try.underlying23 rfl sz23 LN rfl) (by kernel_rfl) (by kernel_rfl) ?_
  refine At.bC  1 (some 22) [] (vs := [_]) (by kernel_rfl) (by kernel_rfl) rfl en24 rfl V0 (c_TNew (key := a) LN) ?_
  exact At.into (hGi (hG2_9 )) rfl rfl
 ·
  rintro fr H ⟨b8, b9, rfl, rfl, -⟩
  refine At.next ?_
  refine At.seq ?_
  refine At.seq ?_
  refine At.region ?_
  refine At.p (some 10) (P_assign rfl rfl) ?_
  refine At.nil ?_
  refine At.next ?_
  refine At.block ?_
  refine At.empty 81 0 96 ?_
  refine At.empty 82 0 96 ?_
  refine At.loopx (I := fun m fr H => ∃ (i : Nat) (A88 : Option Addr) (b88 c88 : Nat) (A89 : Option Addr) (b89 c89 : Nat), m = 2 * (k20 + 1 - i) ∧ fr = frOf [(3, ptr b3 0), (4, ptr b4 0), (6, .bool false), (7, iV (k20 : Int)), (8, ptr b8 0), (9, ptr b9 0), (10, iV (i : Int))] ∧ H = hOf [(3, ⟨true, b3, 0, 23, (a).map u8V, 0⟩), (4, ⟨true, b4, 0, 23, (b).map u8V, 0⟩), (8, ⟨true, b8, 0, 40, [(a).map u8V, [iV (i : Int), .slice A88 ((tabL [1#8, 0#8, 0#8, 0#8, 0#8, 0#8, 0#8, 0#8, 0#8, 0#8, 0#8, 0#8, 0#8, 0#8, 0#8, 0#8, 0#8, 0#8, 0#8, 0#8, 0#8, 0#8, 0#8, 0#8, 0#8, 0#8, 0#8, 0#8, 0#8, 0#8, 0#8, 0#8] i).length) c88]].flatten, 0⟩), (9, ⟨true, b9, 0, 40, [(b).map u8V, [iV (i : Int), .slice A89 ((tabL [1#8, 0#8, 0#8, 0#8, 0#8, 0#8, 0#8, 0#8, 0#8, 0#8, 0#8, 0#8, 0#8, 0#8, 0#8, 0#8, 0#8, 0#8, 0#8, 0#8, 0#8, 0#8, 0#8, 0#8, 0#8, 0#8, 0#8, 0#8, 0#8, 0#8, 0#8, 0#8] i).length) c89]].flatten, 0⟩), (81, ⟨true, b88, 0, 96, encs EntE (tabL [1#8, 0#8, 0#8, 0#8, 0#8, 0#8, 0#8, 0#8, 0#8, 0#8, 0#8, 0#8, 0#8, 0#8, 0#8, 0#8, 0#8, 0#8, 0#8, 0#8, 0#8, 0#8, 0#8, 0#8, 0#8, 0#8, 0#8, 0#8, 0#8, 0#8, 0#8, 0#8] i), (c88 - ((tabL [1#8, 0#8, 0#8, 0#8, 0#8, 0#8, 0#8, 0#8, 0#8, 0#8, 0#8, 0#8, 0#8, 0#8, 0#8, 0#8, 0#8, 0#8, 0#8, 0#8, 0#8, 0#8, 0#8, 0#8, 0#8, 0#8, 0#8, 0#8, 0#8, 0#8, 0#8, 0#8] i)).length) * 33⟩), (82, ⟨true, b89, 0, 96, encs EntE (tabL [1#8, 0#8, 0#8, 0#8, 0#8, 0#8, 0#8, 0#8, 0#8, 0#8, 0#8, 0#8, 0#8, 0#8, 0#8, 0#8, 0#8, 0#8, 0#8, 0#8, 0#8, 0#8, 0#8, 0#8, 0#8, 0#8, 0#8, 0#8, 0#8, 0#8, 0#8, 0#8] i), (c89 - ((tabL [1#8, 0#8, 0#8, 0#8, 0#8, 0#8, 0#8, 0#8, 0#8, 0#8, 0#8, 0#8, 0#8, 0#8, 0#8, 0#8, 0#8, 0#8, 0#8, 0#8, 0#8, 0#8, 0#8, 0#8, 0#8, 0#8, 0#8, 0#8, 0#8, 0#8, 0#8, 0#8] i)).length) * 33⟩)] ∧ (i ≤ k20 + 1) ∧ (0 < c88 → A88 = some ⟨b88, 0, none⟩) ∧ ((tabL [1#8, 0#8, 0#8, 0#8, 0#8, 0#8, 0#8, 0#8, 0#8, 0#8, 0#8, 0#8, 0#8, 0#8, 0#8, 0#8, 0#8, 0#8, 0#8, 0#8, 0#8, 0#8, 0#8, 0#8, 0#8, 0#8, 0#8, 0#8, 0#8, 0#8, 0#8, 0#8] i).length ≤ c88) ∧ (0 < c89 → A89 = some ⟨b89, 0, none⟩) ∧ ((tabL [1#8, 0#8, 0#8, 0#8, 0#8, 0#8, 0#8, 0#8, 0#8, 0#8, 0#8, 0#8, 0#8, 0#8, 0#8, 0#8, 0#8, 0#8, 0#8, 0#8, 0#8, 0#8, 0#8, 0#8, 0#8, 0#8, 0#8, 0#8, 0#8, 0#8, 0#8, 0#8] i).length ≤ c89)) ?_ ?_
  ·
   intro Kc0 hKc0
   refine At.to [(3, _), (4, _), (6, _), (7, _), (8, _), (9, _), (10, _)] [(3, _), (4, _), (8, ⟨true, b8, 0, 40, [(a).map u8V, [iV (0 : Int), .slice none ((tabL [1#8, 0#8, 0#8, 0#8, 0#8, 0#8, 0#8, 0#8, 0#8, 0#8, 0#8, 0#8, 0#8, 0#8, 0#8, 0#8, 0#8, 0#8, 0#8, 0#8, 0#8, 0#8, 0#8, 0#8, 0#8, 0#8, 0#8, 0#8, 0#8, 0#8, 0#8, 0#8] 0).length) 0]].flatten, 0⟩), (9, ⟨true, b9, 0, 40, [(b).map u8V, [iV (0 : Int), .slice none ((tabL [1#8, 0#8, 0#8, 0#8, 0#8, 0#8, 0#8, 0#8, 0#8, 0#8, 0#8, 0#8, 0#8, 0#8, 0#8, 0#8, 0#8, 0#8, 0#8, 0#8, 0#8, 0#8, 0#8, 0#8, 0#8, 0#8, 0#8, 0#8, 0#8, 0#8, 0#8, 0#8] 0).length) 0]].flatten, 0⟩), (81, ⟨true, 0, 0, 96, encs EntE (tabL [1#8, 0#8, 0#8, 0#8, 0#8, 0#8, 0#8, 0#8, 0#8, 0#8, 0#8, 0#8, 0#8, 0#8, 0#8, 0#8, 0#8, 0#8, 0#8, 0#8, 0#8, 0#8, 0#8, 0#8, 0#8, 0#8, 0#8, 0#8, 0#8, 0#8, 0#8, 0#8] 0), (0 - ((tabL [1#8, 0#8, 0#8, 0#8, 0#8, 0#8, 0#8, 0#8, 0#8, 0#8, 0#8, 0#8, 0#8, 0#8, 0#8, 0#8, 0#8, 0#8, 0#8, 0#8, 0#8, 0#8, 0#8, 0#8, 0#8, 0#8, 0#8, 0#8, 0#8, 0#8, 0#8, 0#8] 0)).length) * 33⟩), (82, ⟨true, 0, 0, 96, encs EntE (tabL [1#8, 0#8, 0#8, 0#8, 0#8, 0#8, 0#8, 0#8, 0#8, 0#8, 0#8, 0#8, 0#8, 0#8, 0#8, 0#8, 0#8, 0#8, 0#8, 0#8, 0#8, 0#8, 0#8, 0#8, 0#8, 0#8, 0#8, 0#8, 0#8, 0#8, 0#8, 0#8] 0), (0 - ((tabL [1#8, 0#8, 0#8, 0#8, 0#8, 0#8, 0#8, 0#8, 0#8, 0#8, 0#8, 0#8, 0#8, 0#8, 0#8, 0#8, 0#8, 0#8, 0#8, 0#8, 0#8, 0#8, 0#8, 0#8, 0#8, 0#8, 0#8, 0#8, 0#8, 0#8, 0#8, 0#8] 0)).length) * 33⟩)] (AllL.cons_ (rfl) (AllL.cons_ (rfl) (AllL.cons_ (rfl) (AllL.cons_ (rfl) (AllL.cons_ (rfl) (AllL.cons_ (rfl) (AllL.cons_ (rfl) trivial))))))) (AllL.cons_ (rfl) (AllL.cons_ (rfl) (AllL.cons_ ((by rw [tabL_0]; rfl)) (AllL.cons_ ((by rw [tabL_0]; rfl)) (AllL.cons_ ((by rw [tabL_0]; rfl)) (AllL.cons_ ((by rw [tabL_0]; rfl)) trivial)))))) ?_
   exact hKc0 _ _ _ ⟨0, none, 0, 0, none, 0, 0, rfl, rfl, rfl, (by omega), (fun h => absurd h (Nat.lt_irrefl 0)), (by rw [tabL_len]; exact Nat.le_refl _), (fun h => absurd h (Nat.lt_irrefl 0)), (by rw [tabL_len]; exact Nat.le_refl _)⟩
  ·
   rintro m fr H ⟨i, A88, b88, c88, A89, b89, c89, rfl, rfl, rfl, hi, g88a, g88b, g89a, g89b⟩ Kc0 hKc0
   have hl1 := tabL_len [1#8, 0#8, 0#8, 0#8, 0#8, 0#8, 0#8, 0#8, 0#8, 0#8, 0#8, 0#8, 0#8, 0#8, 0#8, 0#8, 0#8, 0#8, 0#8, 0#8, 0#8, 0#8, 0#8, 0#8, 0#8, 0#8, 0#8, 0#8, 0#8, 0#8, 0#8, 0#8] i
   refine At.seq ?_
   refine At.seq ?_
   refine At.region ?_
   refine At.p (some 25) (P_move rfl rfl) ?_
   refine At.p (some 26) (P_move rfl rfl) ?_
   refine At.p (some 27) (P_cmp rfl rfl rfl rfl rfl rfl) ?_
   refine At.nil ?_
   refine At.next ?_
   refine At.cond rfl (fun h27 => ?_) (fun h27 => ?_)
   · -- cond 27 t
    have e27 : (i : Int) ≤ (k20 : Int) := of_decide_eq_true h27
    refine At.skip ?_
    refine At.next ?_
    refine At.seq ?_
    refine At.block ?_
    refine At.seq ?_
    refine At.region ?_
    refine At.q (some 31) (Q_loadA (k := 8) rfl rfl Try.underlying40 rfl sz40 LN rfl) ?_
    refine At.p (some 32) (P_build_arr (cs := (([1#8, 0#8, 0#8, 0#8, 0#8, 0#8, 0#8, 0#8, 0#8, 0#8, 0#8, 0#8, 0#8, 0#8, 0#8, 0#8, 0#8, 0#8, 0#8, 0#8, 0#8, 0#8, 0#8, 0#8, 0#8, 0#8, 0#8, 0#8, 0#8, 0#8, 0#8, 0#8]).map u8V).toArray) (parts := _) (vs := [(0, _)]) rfl Try.underlying23 sz5 ze23 rfl rfl) ?_
    refine At.s (S_callV (some 33) [(81, _)] [33] (vs := [_, _]) rfl en26 rfl (VN (by simp) rfl View.all V0) (by simp) (c_Mint (key := a) (next := (i : Int)) (L := (tabL [1#8, 0#8, 0#8, 0#8, 0#8, 0#8, 0#8, 0#8, 0#8, 0#8, 0#8, 0#8, 0#8, 0#8, 0#8, 0#8, 0#8, 0#8, 0#8, 0#8, 0#8, 0#8, 0#8, 0#8, 0#8, 0#8, 0#8, 0#8, 0#8, 0#8, 0#8, 0#8] i)) (A := A88) (n := ((tabL [1#8, 0#8, 0#8, 0#8, 0#8, 0#8, 0#8, 0#8, 0#8, 0#8, 0#8, 0#8, 0#8, 0#8, 0#8, 0#8, 0#8, 0#8, 0#8, 0#8, 0#8, 0#8, 0#8, 0#8, 0#8, 0#8, 0#8, 0#8, 0#8, 0#8, 0#8, 0#8] i).length)) (c := c88) (b := b88) (q := 0) (psk := [1#8, 0#8, 0#8, 0#8, 0#8, 0#8, 0#8, 0#8, 0#8, 0#8, 0#8, 0#8, 0#8, 0#8, 0#8, 0#8, 0#8, 0#8, 0#8, 0#8, 0#8, 0#8, 0#8, 0#8, 0#8, 0#8, 0#8, 0#8, 0#8, 0#8, 0#8, 0#8]) LN LN (fun h => g88a (by omega)) OG LN) (by rintro _ _ ⟨A33, b33, c33, g33a, g33b, rfl, rfl⟩; rfl) ?_)
    rintro _ _ ⟨A33, b33, c33, g33a, g33b, rfl, rfl⟩
    have := miK_len (i : Int) (tabL [1#8, 0#8, 0#8, 0#8, 0#8, 0#8, 0#8, 0#8, 0#8, 0#8, 0#8, 0#8, 0#8, 0#8, 0#8, 0#8, 0#8, 0#8, 0#8, 0#8, 0#8, 0#8, 0#8, 0#8, 0#8, 0#8, 0#8, 0#8, 0#8, 0#8, 0#8, 0#8] i) (key := a) LN
    refine At.p (some 30) (P_move rfl rfl) ?_
    refine At.p (some 34) (P_extract rfl rfl rfl) ?_
    refine At.p (some 35) (P_extract rfl rfl rfl) ?_
    refine At.p (some 36) (P_extract rfl rfl rfl) ?_
    refine At.s (S_storeA none (k := 8) (vs := [(miK a (i : Int) (tabL [1#8, 0#8, 0#8, 0#8, 0#8, 0#8, 0#8, 0#8, 0#8, 0#8, 0#8, 0#8, 0#8, 0#8, 0#8, 0#8, 0#8, 0#8, 0#8, 0#8, 0#8, 0#8, 0#8, 0#8, 0#8, 0#8, 0#8, 0#8, 0#8, 0#8, 0#8, 0#8] i)).map u8V, [iV (miN (i : Int) (tabL [1#8, 0#8, 0#8, 0#8, 0#8, 0#8, 0#8, 0#8, 0#8, 0#8, 0#8, 0#8, 0#8, 0#8, 0#8, 0#8, 0#8, 0#8, 0#8, 0#8, 0#8, 0#8, 0#8, 0#8, 0#8, 0#8, 0#8, 0#8, 0#8, 0#8, 0#8, 0#8] i)), .slice A33 ((miL (i : Int) (tabL [1#8, 0#8, 0#8, 0#8, 0#8, 0#8, 0#8, 0#8, 0#8, 0#8, 0#8, 0#8, 0#8, 0#8, 0#8, 0#8, 0#8, 0#8, 0#8, 0#8, 0#8, 0#8, 0#8, 0#8, 0#8, 0#8, 0#8, 0#8, 0#8, 0#8, 0#8, 0#8] i) [1#8, 0#8, 0#8, 0#8, 0#8, 0#8, 0#8, 0#8, 0#8, 0#8, 0#8, 0#8, 0#8, 0#8, 0#8, 0#8, 0#8, 0#8, 0#8, 0#8, 0#8, 0#8, 0#8, 0#8, 0#8, 0#8, 0#8, 0#8, 0#8, 0#8, 0#8, 0#8]).length) c33]].flatten) rfl rfl rfl (by rw [sz40]; exact congrArg some LN) rfl (one_flatc (one_map (fun _ => rfl)) (one_flatc (one_cons rfl (one_cons rfl one_nil)) one_flat0)) NG rfl LN ?_)
    refine At.nil ?_
    refine At.next ?_
    refine At.region ?_
    refine At.q (some 38) (Q_loadA (k := 9) rfl rfl Try.underlying40 rfl sz40 LN rfl) ?_
    refine At.p (some 39) (P_build_arr (cs := (([1#8, 0#8, 0#8, 0#8, 0#8, 0#8, 0#8, 0#8, 0#8, 0#8, 0#8, 0#8, 0#8, 0#8, 0#8, 0#8, 0#8, 0#8, 0#8, 0#8, 0#8, 0#8, 0#8, 0#8, 0#8, 0#8, 0#8, 0#8, 0#8, 0#8, 0#8, 0#8]).map u8V).toArray) (parts := _) (vs := [(0, _)]) rfl Try.underlying23 sz5 ze23 rfl rfl) ?_
    refine At.s (S_callV (some 40) [(82, _)] [40] (vs := [_, _]) rfl en26 rfl (VN (by simp) rfl View.all V0) (by simp) (c_Mint (key := b) (next := (i : Int)) (L := (tabL [1#8, 0#8, 0#8, 0#8, 0#8, 0#8, 0#8, 0#8, 0#8, 0#8, 0#8, 0#8, 0#8, 0#8, 0#8, 0#8, 0#8, 0#8, 0#8, 0#8, 0#8, 0#8, 0#8, 0#8, 0#8, 0#8, 0#8, 0#8, 0#8, 0#8, 0#8, 0#8] i)) (A := A89) (n := ((tabL [1#8, 0#8, 0#8, 0#8, 0#8, 0#8, 0#8, 0#8, 0#8, 0#8, 0#8, 0#8, 0#8, 0#8, 0#8, 0#8, 0#8, 0#8, 0#8, 0#8, 0#8, 0#8, 0#8, 0#8, 0#8, 0#8, 0#8, 0#8, 0#8, 0#8, 0#8, 0#8] i).length)) (c := c89) (b := b89) (q := 0) (psk := [1#8, 0#8, 0#8, 0#8, 0#8, 0#8, 0#8, 0#8, 0#8, 0#8, 0#8, 0#8, 0#8, 0#8, 0#8, 0#8, 0#8, 0#8, 0#8, 0#8, 0#8, 0#8, 0#8, 0#8, 0#8, 0#8, 0#8, 0#8, 0#8, 0#8, 0#8, 0#8]) LN LN (fun h => g89a (by omega)) OG LN) (by rintro _ _ ⟨A40, b40, c40, g40a, g40b, rfl, rfl⟩; rfl) ?_)
    rintro _ _ ⟨A40, b40, c40, g40a, g40b, rfl, rfl⟩
    have := miK_len (i : Int) (tabL [1#8, 0#8, 0#8, 0#8, 0#8, 0#8, 0#8, 0#8, 0#8, 0#8, 0#8, 0#8, 0#8, 0#8, 0#8, 0#8, 0#8, 0#8, 0#8, 0#8, 0#8, 0#8, 0#8, 0#8, 0#8, 0#8, 0#8, 0#8, 0#8, 0#8, 0#8, 0#8] i) (key := b) LN
    refine At.p (some 37) (P_move rfl rfl) ?_
    refine At.p (some 41) (P_extract rfl rfl rfl) ?_
    refine At.p (some 42) (P_extract rfl rfl rfl) ?_
    refine At.p (some 43) (P_extract rfl rfl rfl) ?_
    refine At.s (S_storeA none (k := 9) (vs := [(miK b (i : Int) (tabL [1#8, 0#8, 0#8, 0#8, 0#8, 0#8, 0#8, 0#8, 0#8, 0#8, 0#8, 0#8, 0#8, 0#8, 0#8, 0#8, 0#8, 0#8, 0#8, 0#8, 0#8, 0#8, 0#8, 0#8, 0#8, 0#8, 0#8, 0#8, 0#8, 0#8, 0#8, 0#8] i)).map u8V, [iV (miN (i : Int) (tabL [1#8, 0#8, 0#8, 0#8, 0#8, 0#8, 0#8, 0#8, 0#8, 0#8, 0#8, 0#8, 0#8, 0#8, 0#8, 0#8, 0#8, 0#8, 0#8, 0#8, 0#8, 0#8, 0#8, 0#8, 0#8, 0#8, 0#8, 0#8, 0#8, 0#8, 0#8, 0#8] i)), .slice A40 ((miL (i : Int) (tabL [1#8, 0#8, 0#8, 0#8, 0#8, 0#8, 0#8, 0#8, 0#8, 0#8, 0#8, 0#8, 0#8, 0#8, 0#8, 0#8, 0#8, 0#8, 0#8, 0#8, 0#8, 0#8, 0#8, 0#8, 0#8, 0#8, 0#8, 0#8, 0#8, 0#8, 0#8, 0#8] i) [1#8, 0#8, 0#8, 0#8, 0#8, 0#8, 0#8, 0#8, 0#8, 0#8, 0#8, 0#8, 0#8, 0#8, 0#8, 0#8, 0#8, 0#8, 0#8, 0#8, 0#8, 0#8, 0#8, 0#8, 0#8, 0#8, 0#8, 0#8, 0#8, 0#8, 0#8, 0#8]).length) c40]].flatten) rfl rfl rfl (by rw [sz40]; exact congrArg some LN) rfl (one_flatc (one_map (fun _ => rfl)) (one_flatc (one_cons rfl (one_cons rfl one_nil)) one_flat0)) NG rfl LN ?_)
    refine At.nil ?_
    refine At.inb_n ?_
    refine At.next ?_
    refine At.region ?_
    refine At.p (some 28) (P_move rfl rfl) ?_
    refine At.p (some 29) (P_add_i rfl rfl rfl (by omega)) ?_
    refine At.p (some 10) (P_assign rfl rfl) ?_
    refine At.nil ?_
    refine At.next ?_
    obtain ⟨x1, y2, y3⟩ := mt_step a [1#8, 0#8, 0#8, 0#8, 0#8, 0#8, 0#8, 0#8, 0#8, 0#8, 0#8, 0#8, 0#8, 0#8, 0#8, 0#8, 0#8, 0#8, 0#8, 0#8, 0#8, 0#8, 0#8, 0#8, 0#8, 0#8, 0#8, 0#8, 0#8, 0#8, 0#8, 0#8] (i := i) (by omega)
    obtain ⟨y1, _, _⟩ := mt_step b [1#8, 0#8, 0#8, 0#8, 0#8, 0#8, 0#8, 0#8, 0#8, 0#8, 0#8, 0#8, 0#8, 0#8, 0#8, 0#8, 0#8, 0#8, 0#8, 0#8, 0#8, 0#8, 0#8, 0#8, 0#8, 0#8, 0#8, 0#8, 0#8, 0#8, 0#8, 0#8] (i := i) (by omega)
    refine At.swap 33 81 ?_
    refine At.swap 40 82 ?_
    refine At.to [(3, _), (4, _), (6, _), (7, _), (8, _), (9, _), (10, _)] [(3, _), (4, _), (8, ⟨true, b8, 0, 40, [(a).map u8V, [iV ((i + 1) : Int), .slice A33 ((tabL [1#8, 0#8, 0#8, 0#8, 0#8, 0#8, 0#8, 0#8, 0#8, 0#8, 0#8, 0#8, 0#8, 0#8, 0#8, 0#8, 0#8, 0#8, 0#8, 0#8, 0#8, 0#8, 0#8, 0#8, 0#8, 0#8, 0#8, 0#8, 0#8, 0#8, 0#8, 0#8] (i + 1)).length) c33]].flatten, 0⟩), (9, ⟨true, b9, 0, 40, [(b).map u8V, [iV ((i + 1) : Int), .slice A40 ((tabL [1#8, 0#8, 0#8, 0#8, 0#8, 0#8, 0#8, 0#8, 0#8, 0#8, 0#8, 0#8, 0#8, 0#8, 0#8, 0#8, 0#8, 0#8, 0#8, 0#8, 0#8, 0#8, 0#8, 0#8, 0#8, 0#8, 0#8, 0#8, 0#8, 0#8, 0#8, 0#8] (i + 1)).length) c40]].flatten, 0⟩), (81, ⟨true, b33, 0, 96, encs EntE (tabL [1#8, 0#8, 0#8, 0#8, 0#8, 0#8, 0#8, 0#8, 0#8, 0#8, 0#8, 0#8, 0#8, 0#8, 0#8, 0#8, 0#8, 0#8, 0#8, 0#8, 0#8, 0#8, 0#8, 0#8, 0#8, 0#8, 0#8, 0#8, 0#8, 0#8, 0#8, 0#8] (i + 1)), (c33 - ((tabL [1#8, 0#8, 0#8, 0#8, 0#8, 0#8, 0#8, 0#8, 0#8, 0#8, 0#8, 0#8, 0#8, 0#8, 0#8, 0#8, 0#8, 0#8, 0#8, 0#8, 0#8, 0#8, 0#8, 0#8, 0#8, 0#8, 0#8, 0#8, 0#8, 0#8, 0#8, 0#8] (i + 1))).length) * 33⟩), (82, ⟨true, b40, 0, 96, encs EntE (tabL [1#8, 0#8, 0#8, 0#8, 0#8, 0#8, 0#8, 0#8, 0#8, 0#8, 0#8, 0#8, 0#8, 0#8, 0#8, 0#8, 0#8, 0#8, 0#8, 0#8, 0#8, 0#8, 0#8, 0#8, 0#8, 0#8, 0#8, 0#8, 0#8, 0#8, 0#8, 0#8] (i + 1)), (c40 - ((tabL [1#8, 0#8, 0#8, 0#8, 0#8, 0#8, 0#8, 0#8, 0#8, 0#8, 0#8, 0#8, 0#8, 0#8, 0#8, 0#8, 0#8, 0#8, 0#8, 0#8, 0#8, 0#8, 0#8, 0#8, 0#8, 0#8, 0#8, 0#8, 0#8, 0#8, 0#8, 0#8] (i + 1))).length) * 33⟩)] (AllL.cons_ (rfl) (AllL.cons_ (rfl) (AllL.cons_ (rfl) (AllL.cons_ (rfl) (AllL.cons_ (rfl) (AllL.cons_ (rfl) (AllL.cons_ (rfl) trivial))))))) (AllL.cons_ (rfl) (AllL.cons_ (rfl) (AllL.cons_ ((by rw [x1, y2, y3]; rfl)) (AllL.cons_ ((by rw [y1, y2, y3]; rfl)) (AllL.cons_ ((by rw [y3]; rfl)) (AllL.cons_ ((by rw [y3]; rfl)) trivial)))))) ?_
    exact hKc0 _ _ _ (by omega) ⟨i + 1, A33, b33, c33, A40, b40, c40, rfl, rfl, rfl, (by omega), g33a, (by rw [y3] at g33b; exact g33b), g40a, (by rw [y3] at g40b; exact g40b)⟩
   · -- cond 27 f
    have e27 : ¬ (i : Int) ≤ (k20 : Int) := of_decide_eq_false h27
    refine At.exit ?_
    refine At.thn_e ?_
    refine At.thn_e ?_
    refine At.inb_hit ?_
    refine At.next ?_
    refine At.seq ?_
    obtain rfl : i = k20 + 1 := by omega
    have hl1 := tabL_len [1#8, 0#8, 0#8, 0#8, 0#8, 0#8, 0#8, 0#8, 0#8, 0#8, 0#8, 0#8, 0#8, 0#8, 0#8, 0#8, 0#8, 0#8, 0#8, 0#8, 0#8, 0#8, 0#8, 0#8, 0#8, 0#8, 0#8, 0#8, 0#8, 0#8, 0#8, 0#8] (k20 + 1)
    refine At.draws 5 [] [.q false [0, 1, 3, 4], .e false 2] (by kernel_rfl) (by kernel_rfl) ?_
    refine At.wq (some 44) (Q_loadA (k := 8) rfl rfl Try.underlying40 rfl sz40 LN rfl) ?_
    refine At.wp (some 45) (P_move rfl rfl) ?_
    refine At.wq (some 47) (Q_loadA (k := 9) rfl rfl Try.underlying40 rfl sz40 LN rfl) ?_
    refine At.wp (some 48) (P_move rfl rfl) ?_
    refine At.wqn ?_
    refine At.we ?_
    refine SStep.up (S_callV (some 46) [(81, _)] [46] (vs := [_, _]) rfl en36 rfl (VN (by simp) rfl View.all V0) (by simp) (c_TText (key := a) (next := ((k20 + 1) : Int)) (L := (tabL [1#8, 0#8, 0#8, 0#8, 0#8, 0#8, 0#8, 0#8, 0#8, 0#8, 0#8, 0#8, 0#8, 0#8, 0#8, 0#8, 0#8, 0#8, 0#8, 0#8, 0#8, 0#8, 0#8, 0#8, 0#8, 0#8, 0#8, 0#8, 0#8, 0#8, 0#8, 0#8] (k20 + 1))) (A := A88) (n := ((tabL [1#8, 0#8, 0#8, 0#8, 0#8, 0#8, 0#8, 0#8, 0#8, 0#8, 0#8, 0#8, 0#8, 0#8, 0#8, 0#8, 0#8, 0#8, 0#8, 0#8, 0#8, 0#8, 0#8, 0#8, 0#8, 0#8, 0#8, 0#8, 0#8, 0#8, 0#8, 0#8] (k20 + 1)).length)) (c := c88) (b := b88) (q := 0) (id := (k20 : Int)) LN LN (fun h => g88a (by omega)) OG) (by rintro _ _ ⟨A46, b46, c46, g46a, g46b, rfl, rfl⟩; rfl) ?_)
    rintro _ _ ⟨A46, b46, c46, g46a, g46b, rfl, rfl⟩
    have := tk_le a (k20 : Int)
    refine At.wt rfl ?_
    refine At.s (S_callV (some 49) [(82, _)] [49] (vs := [_, _]) rfl en36 rfl (VN (by simp) rfl View.all V0) (by simp) (c_TText (key := b) (next := ((k20 + 1) : Int)) (L := (tabL [1#8, 0#8, 0#8, 0#8, 0#8, 0#8, 0#8, 0#8, 0#8, 0#8, 0#8, 0#8, 0#8, 0#8, 0#8, 0#8, 0#8, 0#8, 0#8, 0#8, 0#8, 0#8, 0#8, 0#8, 0#8, 0#8, 0#8, 0#8, 0#8, 0#8, 0#8, 0#8] (k20 + 1))) (A := A89) (n := ((tabL [1#8, 0#8, 0#8, 0#8, 0#8, 0#8, 0#8, 0#8, 0#8, 0#8, 0#8, 0#8, 0#8, 0#8, 0#8, 0#8, 0#8, 0#8, 0#8, 0#8, 0#8, 0#8, 0#8, 0#8, 0#8, 0#8, 0#8, 0#8, 0#8, 0#8, 0#8, 0#8] (k20 + 1)).length)) (c := c89) (b := b89) (q := 0) (id := (k20 : Int)) LN LN (fun h => g89a (by omega)) OG) (by rintro _ _ ⟨A49, b49, c49, g49a, g49b, rfl, rfl⟩; rfl) ?_)
    rintro _ _ ⟨A49, b49, c49, g49a, g49b, rfl, rfl⟩
    have := tk_le b (k20 : Int)
    refine At.p (some 11) (P_assign rfl rfl) ?_
    refine At.p (some 12) (P_assign rfl rfl) ?_
    refine At.nil ?_
    refine At.next ?_
    refine At.seq ?_
    refine At.region ?_
    refine At.q (some 51) (Q_loadA (k := 8) rfl rfl Try.underlying40 rfl sz40 LN rfl) ?_
    refine At.p (some 52) (P_move rfl rfl) ?_
    refine At.s (S_callV (some 53) [(81, _), (49, _)] [53] (vs := [_, _]) rfl en29 rfl (VN (by simp) rfl View.all (VN (by simp) rfl View.all V0)) (by simp) (c_Use (key := a) (next := ((k20 + 1) : Int)) (L := (tabL [1#8, 0#8, 0#8, 0#8, 0#8, 0#8, 0#8, 0#8, 0#8, 0#8, 0#8, 0#8, 0#8, 0#8, 0#8, 0#8, 0#8, 0#8, 0#8, 0#8, 0#8, 0#8, 0#8, 0#8, 0#8, 0#8, 0#8, 0#8, 0#8, 0#8, 0#8, 0#8] (k20 + 1))) (A := A88) (n := ((tabL [1#8, 0#8, 0#8, 0#8, 0#8, 0#8, 0#8, 0#8, 0#8, 0#8, 0#8, 0#8, 0#8, 0#8, 0#8, 0#8, 0#8, 0#8, 0#8, 0#8, 0#8, 0#8, 0#8, 0#8, 0#8, 0#8, 0#8, 0#8, 0#8, 0#8, 0#8, 0#8] (k20 + 1)).length)) (c := c88) (b := b88) (q := 0) (tk := (tkT b (k20 : Int))) (ntk := ((tkT b (k20 : Int)).length)) (Atk := A49) (ctk := c49) (btk := b49) (qtk := 0) LN LN (fun h => g88a (by omega)) OG LN (fun h => g49a (by omega)) OG) (by rintro _ _ ⟨A53, b53, c53, g53a, g53b, rfl, rfl⟩; rfl) ?_)
    rintro _ _ ⟨A53, b53, c53, g53a, g53b, rfl, rfl⟩
    have := usK_len ((k20 + 1) : Int) (tabL [1#8, 0#8, 0#8, 0#8, 0#8, 0#8, 0#8, 0#8, 0#8, 0#8, 0#8, 0#8, 0#8, 0#8, 0#8, 0#8, 0#8, 0#8, 0#8, 0#8, 0#8, 0#8, 0#8, 0#8, 0#8, 0#8, 0#8, 0#8, 0#8, 0#8, 0#8, 0#8] (k20 + 1)) (tkT b (k20 : Int)) (key := a) LN
    refine At.p (some 50) (P_move rfl rfl) ?_
    refine At.p (some 54) (P_extract rfl rfl rfl) ?_
    refine At.p (some 55) (P_extract rfl rfl rfl) ?_
    refine At.p (some 56) (P_extract rfl rfl rfl) ?_
    refine At.s (S_alloc (some 13) 13 (zs := [(List.replicate 32 0#8).map u8V, [iV 0, .slice none 0 0]].flatten) rfl ze40 rfl (fun b13 => ?_))
    refine At.s (S_storeA none (k := 13) (vs := [(usK a ((k20 + 1) : Int) (tabL [1#8, 0#8, 0#8, 0#8, 0#8, 0#8, 0#8, 0#8, 0#8, 0#8, 0#8, 0#8, 0#8, 0#8, 0#8, 0#8, 0#8, 0#8, 0#8, 0#8, 0#8, 0#8, 0#8, 0#8, 0#8, 0#8, 0#8, 0#8, 0#8, 0#8, 0#8, 0#8] (k20 + 1)) (tkT b (k20 : Int))).map u8V, [iV (usN a ((k20 + 1) : Int) (tabL [1#8, 0#8, 0#8, 0#8, 0#8, 0#8, 0#8, 0#8, 0#8, 0#8, 0#8, 0#8, 0#8, 0#8, 0#8, 0#8, 0#8, 0#8, 0#8, 0#8, 0#8, 0#8, 0#8, 0#8, 0#8, 0#8, 0#8, 0#8, 0#8, 0#8, 0#8, 0#8] (k20 + 1)) (tkT b (k20 : Int))), .slice A53 ((usL a ((k20 + 1) : Int) (tabL [1#8, 0#8, 0#8, 0#8, 0#8, 0#8, 0#8, 0#8, 0#8, 0#8, 0#8, 0#8, 0#8, 0#8, 0#8, 0#8, 0#8, 0#8, 0#8, 0#8, 0#8, 0#8, 0#8, 0#8, 0#8, 0#8, 0#8, 0#8, 0#8, 0#8, 0#8, 0#8] (k20 + 1)) (tkT b (k20 : Int))).length) c53]].flatten) rfl rfl rfl (by rw [sz40]; exact congrArg some LN) rfl (one_flatc (one_map (fun _ => rfl)) (one_flatc (one_cons rfl (one_cons rfl one_nil)) one_flat0)) NG rfl LN ?_)
    refine At.p (some 14) (P_assign rfl rfl) ?_
    refine At.p (some 15) (P_assign rfl rfl) ?_
    refine At.nil ?_
    refine At.next ?_
    refine At.seq ?_
    refine At.draws 8 [] [.q false [0, 1, 4, 5], .e false 2, .q false [3], .e false 6, .q false [7]] (by kernel_rfl) (by kernel_rfl) ?_
    refine At.wq (some 57) (Q_loadA (k := 3) rfl rfl Try.underlying23 rfl sz23 LN rfl) ?_
    refine At.wp (some 58) (P_move rfl rfl) ?_
    refine At.wq (some 61) (Q_loadA (k := 4) rfl rfl Try.underlying23 rfl sz23 LN rfl) ?_
    refine At.wp (some 62) (P_move rfl rfl) ?_
    refine At.wqn ?_
    refine At.we ?_
    refine SStep.up (S_callV (some 59) [] [59] (vs := [_, _]) rfl en28 rfl V0 (by simp) (r_TText (key := a) (id := (k20 : Int)) LN) (by rintro _ _ ⟨A59, b59, c59, g59a, g59b, rfl, rfl⟩; rfl) ?_)
    rintro _ _ ⟨A59, b59, c59, g59a, g59b, rfl, rfl⟩
    have := tk_le a (k20 : Int)
    refine At.wq (some 60) (Q_strA (l := (tkT a (k20 : Int))) (n := ((tkT a (k20 : Int)).length)) (k := 59) LN rfl Try.underlying22 Try.underlying5 Try.underlying9 rfl (fun h => g59a (by omega)) (fun _ => ⟨rfl, rfl, rfl⟩)) ?_
    refine At.wqn ?_
    refine At.we ?_
    refine SStep.up (S_callV (some 63) [] [63] (vs := [_, _]) rfl en28 rfl V0 (by simp) (r_TText (key := b) (id := (k20 : Int)) LN) (by rintro _ _ ⟨A63, b63, c63, g63a, g63b, rfl, rfl⟩; rfl) ?_)
    rintro _ _ ⟨A63, b63, c63, g63a, g63b, rfl, rfl⟩
    have := tk_le b (k20 : Int)
    refine At.wq (some 64) (Q_strA (l := (tkT b (k20 : Int))) (n := ((tkT b (k20 : Int)).length)) (k := 63) LN rfl Try.underlying22 Try.underlying5 Try.underlying9 rfl (fun h => g63a (by omega)) (fun _ => ⟨rfl, rfl, rfl⟩)) ?_
    refine At.wqn ?_
    refine At.wt rfl ?_
    refine At.p (some 65) (P_eql_str (a := (tkT a (k20 : Int))) (b := (tkT b (k20 : Int))) rfl rfl rfl) ?_
    refine At.p (some 16) (P_assign rfl rfl) ?_
    refine At.nil ?_
    refine At.next ?_
    refine At.seq ?_
    have hU := keys_uI (a := a) (b := b) (p := [1#8, 0#8, 0#8, 0#8, 0#8, 0#8, 0#8, 0#8, 0#8, 0#8, 0#8, 0#8, 0#8, 0#8, 0#8, 0#8, 0#8, 0#8, 0#8, 0#8, 0#8, 0#8, 0#8, 0#8, 0#8, 0#8, 0#8, 0#8, 0#8, 0#8, 0#8, 0#8]) hk20
    refine At.region ?_
    refine At.s (S_callV (some 66) [] [] (vs := []) rfl en33 rfl V0 (by simp) (c_mints  ) (by rintro _ _ ⟨rfl, rfl⟩; rfl) ?_)
    rintro _ _ ⟨rfl, rfl⟩
    refine At.p (some 67) (P_move rfl rfl) ?_
    refine At.gy (t := 67) rfl (by first | rfl | (simp; done) | (rw [tk_len (by omega)]; rfl) | (rw [hU]; split <;> simp_all)) rfl rfl ?_
    refine At.p (some 68) (P_move rfl rfl) ?_
    refine At.gy (t := 67) rfl (by first | rfl | (simp; done) | (rw [tk_len (by omega)]; rfl) | (rw [hU]; split <;> simp_all)) rfl rfl ?_
    refine At.p (some 69) (P_len_sl rfl rfl ⟨_, Try.underlying22⟩ rfl) ?_
    refine At.gy (t := 67) rfl (by first | rfl | (simp; done) | (rw [tk_len (by omega)]; rfl) | (rw [hU]; split <;> simp_all)) rfl rfl ?_
    refine At.p (some 70) (P_cmp rfl rfl rfl rfl rfl rfl) ?_
    refine At.p (some 71) (P_pick_t rfl rfl (by first | rfl | (simp; done) | (rw [tk_len (by omega)]; rfl) | (rw [hU]; split <;> simp_all)) rfl) ?_
    refine At.p (some 72) (P_move rfl rfl) ?_
    refine At.gy (t := 72) rfl (by first | rfl | (simp; done) | (rw [tk_len (by omega)]; rfl) | (rw [hU]; split <;> simp_all)) rfl rfl ?_
    refine At.p (some 73) (P_move rfl rfl) ?_
    refine At.gy (t := 72) rfl (by first | rfl | (simp; done) | (rw [tk_len (by omega)]; rfl) | (rw [hU]; split <;> simp_all)) rfl rfl ?_
    refine At.q (some 74) (Q_strA (l := (tkT a (k20 : Int))) (n := ((tkT a (k20 : Int)).length)) (k := 46) LN rfl Try.underlying22 Try.underlying5 Try.underlying9 rfl (fun h => g46a (by omega)) (fun _ => ⟨rfl, rfl, rfl⟩)) ?_
    refine At.gy (t := 72) rfl (by first | rfl | (simp; done) | (rw [tk_len (by omega)]; rfl) | (rw [hU]; split <;> simp_all)) rfl rfl ?_
    refine At.p (some 75) (P_move rfl rfl) ?_
    refine At.gy (t := 72) rfl (by first | rfl | (simp; done) | (rw [tk_len (by omega)]; rfl) | (rw [hU]; split <;> simp_all)) rfl rfl ?_
    refine At.q (some 76) (Q_strA (l := (tkT b (k20 : Int))) (n := ((tkT b (k20 : Int)).length)) (k := 49) LN rfl Try.underlying22 Try.underlying5 Try.underlying9 rfl (fun h => g49a (by omega)) (fun _ => ⟨rfl, rfl, rfl⟩)) ?_
    refine At.gy (t := 72) rfl (by first | rfl | (simp; done) | (rw [tk_len (by omega)]; rfl) | (rw [hU]; split <;> simp_all)) rfl rfl ?_
    refine At.p (some 77) (P_eql_str (a := (tkT a (k20 : Int))) (b := (tkT b (k20 : Int))) rfl rfl rfl) ?_
    refine At.gy (t := 72) rfl (by first | rfl | (simp; done) | (rw [tk_len (by omega)]; rfl) | (rw [hU]; split <;> simp_all)) rfl rfl ?_
    refine At.p (some 78) (P_move rfl rfl) ?_
    refine At.gy (t := 72) rfl (by first | rfl | (simp; done) | (rw [tk_len (by omega)]; rfl) | (rw [hU]; split <;> simp_all)) rfl rfl ?_
    refine At.p (some 79) (P_eql_bool rfl Try.underlying4 rfl rfl) ?_
    refine At.p (some 80) (P_pick_t rfl rfl (by first | rfl | (simp; done) | (rw [tk_len (by omega)]; rfl) | (rw [hU]; split <;> simp_all)) rfl) ?_
    refine At.p (some 81) (P_move rfl rfl) ?_
    refine At.gy (t := 81) rfl (by first | rfl | (simp; done) | (rw [tk_len (by omega)]; rfl) | (rw [hU]; split <;> simp_all)) rfl rfl ?_
    refine At.p (some 82) (P_move rfl rfl) ?_
    refine At.gy (t := 81) rfl (by first | rfl | (simp; done) | (rw [tk_len (by omega)]; rfl) | (rw [hU]; split <;> simp_all)) rfl rfl ?_
    refine At.p (some 83) (P_cmp rfl rfl rfl rfl rfl rfl) ?_
    refine At.gy (t := 81) rfl (by first | rfl | (simp; done) | (rw [tk_len (by omega)]; rfl) | (rw [hU]; split <;> simp_all)) rfl rfl ?_
    refine At.p (some 84) (P_move rfl rfl) ?_
    refine At.gy (t := 81) rfl (by first | rfl | (simp; done) | (rw [tk_len (by omega)]; rfl) | (rw [hU]; split <;> simp_all)) rfl rfl ?_
    refine At.p (some 85) (P_eql_bool rfl Try.underlying4 rfl rfl) ?_
    refine At.p (some 86) (P_pick_t rfl rfl (by first | rfl | (simp; done) | (rw [tk_len (by omega)]; rfl) | (rw [hU]; split <;> simp_all)) rfl) ?_
    refine At.p (some 87) (P_move rfl rfl) ?_
    refine At.gy (t := 87) rfl (by first | rfl | (simp; done) | (rw [tk_len (by omega)]; rfl) | (rw [hU]; split <;> simp_all)) rfl rfl ?_
    refine At.p (some 88) (P_move rfl rfl) ?_
    refine At.gy (t := 87) rfl (by first | rfl | (simp; done) | (rw [tk_len (by omega)]; rfl) | (rw [hU]; split <;> simp_all)) rfl rfl ?_
    refine At.p (some 89) (P_cmp rfl rfl rfl rfl rfl rfl) ?_
    refine At.gy (t := 87) rfl (by first | rfl | (simp; done) | (rw [tk_len (by omega)]; rfl) | (rw [hU]; split <;> simp_all)) rfl rfl ?_
    refine At.p (some 90) (P_move rfl rfl) ?_
    refine At.gsplit (t := 90) (want := false) rfl (fun g1 => ?_) (fun g1 => ?_)
    ·
     have eg1 : (usE a ((k20 + 1) : Int) (tabL [1#8, 0#8, 0#8, 0#8, 0#8, 0#8, 0#8, 0#8, 0#8, 0#8, 0#8, 0#8, 0#8, 0#8, 0#8, 0#8, 0#8, 0#8, 0#8, 0#8, 0#8, 0#8, 0#8, 0#8, 0#8, 0#8, 0#8, 0#8, 0#8, 0#8, 0#8, 0#8] (k20 + 1)) (tkT b (k20 : Int))) ≠ 0 := beq_eq_false_iff_ne.1 g1
     refine At.gy (t := 90) rfl g1 rfl rfl ?_
     refine At.p (some 91) (P_move rfl rfl) ?_
     refine At.gy (t := 90) rfl g1 rfl rfl ?_
     refine At.p (some 92) (P_cmp rfl rfl rfl rfl rfl rfl) ?_
     refine At.gy (t := 87) rfl (by first | rfl | (simp; done) | (rw [tk_len (by omega)]; rfl) | (rw [hU]; split <;> simp_all)) rfl rfl ?_
     refine At.p (some 93) (P_pick_f rfl rfl g1 rfl) ?_
     refine At.p (some 94) (P_pick_t rfl rfl (by first | rfl | (simp; done) | (rw [tk_len (by omega)]; rfl) | (rw [hU]; split <;> simp_all)) rfl) ?_
     refine At.p (some 6) (P_assign rfl rfl) ?_
     refine At.nil ?_
     refine At.next ?_
     refine At.ret ?_
     have hq0 : ((usE a ((k20 + 1) : Int) (tabL [1#8, 0#8, 0#8, 0#8, 0#8, 0#8, 0#8, 0#8, 0#8, 0#8, 0#8, 0#8, 0#8, 0#8, 0#8, 0#8, 0#8, 0#8, 0#8, 0#8, 0#8, 0#8, 0#8, 0#8, 0#8, 0#8, 0#8, 0#8, 0#8, 0#8, 0#8, 0#8] (k20 + 1)) (tkT b (k20 : Int))) == 13) = true := (by first | rfl | (simp; done) | (rw [tk_len (by omega)]; rfl) | (rw [hU]; split <;> simp_all))
     refine At.give (.inl rfl) [] (rows' := []) (vs := [_]) rfl ⟨rfl, trivial⟩ rfl (by simp) (by simp) ⟨(by first | (rw [hq0]; try rfl; done) | (rw [← hq0]; try rfl; done) | (simp only [hq0]; try rfl; done) | (simp only [← hq0]; try rfl; done) | rfl), (by first | (rw [hq0]; try rfl; done) | (rw [← hq0]; try rfl; done) | (simp only [hq0]; try rfl; done) | (simp only [← hq0]; try rfl; done) | rfl)⟩
    ·
     have eg1 : (usE a ((k20 + 1) : Int) (tabL [1#8, 0#8, 0#8, 0#8, 0#8, 0#8, 0#8, 0#8, 0#8, 0#8, 0#8, 0#8, 0#8, 0#8, 0#8, 0#8, 0#8, 0#8, 0#8, 0#8, 0#8, 0#8, 0#8, 0#8, 0#8, 0#8, 0#8, 0#8, 0#8, 0#8, 0#8, 0#8] (k20 + 1)) (tkT b (k20 : Int))) = 0 := eq_of_beq g1
     refine At.gn (some 91) (t := 90) rfl g1 rfl rfl ?_
     refine At.gn (some 92) (t := 90) rfl g1 rfl rfl ?_
     refine At.gy (t := 87) rfl (by first | rfl | (simp; done) | (rw [tk_len (by omega)]; rfl) | (rw [hU]; split <;> simp_all)) rfl rfl ?_
     refine At.p (some 93) (P_pick_t rfl rfl g1 rfl) ?_
     refine At.p (some 94) (P_pick_t rfl rfl (by first | rfl | (simp; done) | (rw [tk_len (by omega)]; rfl) | (rw [hU]; split <;> simp_all)) rfl) ?_
     refine At.p (some 6) (P_assign rfl rfl) ?_
     refine At.nil ?_
     refine At.next ?_
     refine At.ret ?_
     have hq0 : true = true := (by first | rfl | (simp; done) | (rw [tk_len (by omega)]; rfl) | (rw [hU]; split <;> simp_all))
     refine At.give (.inl rfl) [] (rows' := []) (vs := [_]) rfl ⟨rfl, trivial⟩ rfl (by simp) (by simp) ⟨(by first | (rw [hq0]; try rfl; done) | (rw [← hq0]; try rfl; done) | (simp only [hq0]; try rfl; done) | (simp only [← hq0]; try rfl; done) | rfl), (by first | (rw [hq0]; try rfl; done) | (rw [← hq0]; try rfl; done) | (simp only [hq0]; try rfl; done) | (simp only [← hq0]; try rfl; done) | rfl)⟩


end Go.Proofs.Ytihciioopdalnaa
