import Derived.Test.YtdingfinclcbgaaJN2
import Derived.Test.YtdingfinclcbgaaG1
namespace Go.Proofs.Ytdingfinclcbgaa
set_option maxRecDepth 20000
set_option linter.unusedVariables false
set_option linter.unusedSimpArgs false
open Go.SE Go.RowKit
theorem splice_len {α : Type} {l X : List α} {p n : Nat} (h : l.length = n) (hx : p + X.length ≤ n) : (splice l p X).length = n := by rw [splice_length _ _ _ (by omega), h]
theorem sec_of {gen : BitVec 64} {k ne : Nat} {e : List (BitVec 8)} (he : e.length = ne) (h : ne ≤ 14) :
  (splice (splice (sumS (mkP gen k e)) 16 (beW 2 (BitVec.ofInt 64 (ne : Int)))) (16 + 2) e).take (16 + 2 + ne) ++ List.replicate (64 - (16 + 2 + ne)) 0#8 = secB gen k e := by
 subst he
 have hm : (sumS (mkP gen k e)).length = 32 := sumS_len _
 have h2 := beW_len 2 (BitVec.ofInt 64 (e.length : Int))
 rw [show 16 + 2 = 16 + 2 from rfl, splice_push (k := 2) h2 (by omega), show 16 + 2 + e.length = 16 + (beW 2 (BitVec.ofInt 64 (e.length : Int)) ++ e).length by rw [List.length_append, h2]; omega]
 unfold splice secB mkB
 rw [show 16 + (beW 2 (BitVec.ofInt 64 (e.length : Int)) ++ e).length = (List.take 16 (sumS (mkP gen k e)) ++ (beW 2 (BitVec.ofInt 64 (e.length : Int)) ++ e)).length by simp only [List.length_append, List.length_take, hm]; rfl, List.take_left, show 64 - (List.take 16 (sumS (mkP gen k e)) ++ (beW 2 (BitVec.ofInt 64 (e.length : Int)) ++ e)).length = 64 - (18 + e.length) by simp only [List.length_append, List.length_take, hm, h2]; omega]
 simp only [List.append_assoc]

attribute [local irreducible] sumS
set_option maxHeartbeats 2000000 in
theorem c_bigA {bA p : Nat} {l : List (BitVec 8)} {n : BitVec 64} {sz : Nat} (hl : l.length = 32) (hs : sz ≤ 8) (hp : p + sz ≤ 32) :
  Con Try.prog 53 [.slice (some ⟨bA, 0, none⟩) p 32, u64V n, iV (sz : Int)] [⟨true, bA, 0, 91, (l).map u8V, 0⟩] (fun v rs => v = .slice (some ⟨bA, 0, none⟩) (p + sz) 32 ∧ rs = [⟨true, bA, 0, 91, (splice l p (beW sz n)).map u8V, 0⟩]) := by
 refine Con.enter Try.func53 Try.ntmps53 (Nat.le_of_ble_eq_true rfl) rfl fun w => ?_
 refine At.seq ?_
 refine At.region ?_
 refine At.p (some 6) (P_assign rfl rfl) ?_
 refine At.nil ?_
 refine At.next ?_
 refine At.seq ?_
 refine At.seq ?_
 refine At.region ?_
 refine At.p (some 8) (P_move rfl rfl) ?_
 refine At.p (some 9) (P_sub_i rfl rfl rfl (by omega)) ?_
 refine At.p (some 7) (P_assign rfl rfl) ?_
 refine At.nil ?_
 refine At.next ?_
 refine At.block ?_
 refine At.loopx (I := fun m fr H => ∃ (k : Nat), m = 2 * (sz - k) ∧ fr = frOf [(0, .slice (some ⟨bA, 0, none⟩) (p + k) 32), (1, u64V n), (2, iV (sz : Int)), (6, .slice none 0 0), (7, iV ((sz : Int) - 1 - (k : Int))), (8, iV (sz : Int)), (9, iV ((sz : Int) - 1))] ∧ H = hOf [(0, ⟨true, bA, 0, 91, ((splice l p ((beW sz n).take k))).map u8V, 0⟩)] ∧ (k ≤ sz)) ?_ ?_
 ·
  intro Kc0 hKc0
  refine At.to [(0, _), (1, _), (2, _), (6, _), (7, iV ((sz : Int) - 1 - ((0 : Nat) : Int))), (8, _), (9, _)] [(0, ⟨true, bA, 0, 91, ((splice l p ((beW sz n).take 0))).map u8V, 0⟩)] (AllL.cons_ (rfl) (AllL.cons_ (rfl) (AllL.cons_ (rfl) (AllL.cons_ (rfl) (AllL.cons_ ((congrArg (fun z : Int => some (iV z)) (by omega))) (AllL.cons_ (rfl) (AllL.cons_ (rfl) trivial))))))) (AllL.cons_ ((by rw [List.take_zero, splice_nil]; rfl)) trivial) ?_
  exact hKc0 _ _ _ ⟨0, rfl, rfl, rfl, (by omega)⟩
 ·
  rintro m fr H ⟨k, rfl, rfl, rfl, hk⟩ Kc0 hKc0
  have hbl := beW_len sz n
  have htl : ((beW sz n).take k).length = k := by rw [List.length_take]; omega
  have hsl : (splice l p ((beW sz n).take k)).length = 32 := by rw [splice_length _ _ _ (by omega), hl]
  refine At.seq ?_
  refine At.seq ?_
  refine At.region ?_
  refine At.p (some 10) (P_move rfl rfl) ?_
  refine At.p (some 11) (P_cmp rfl rfl rfl rfl rfl rfl) ?_
  refine At.nil ?_
  refine At.next ?_
  refine At.cond rfl (fun h11 => ?_) (fun h11 => ?_)
  · -- cond 11 t
   have e11 : ((sz : Int) - 1 - (k : Int)) ≥ 0 := of_decide_eq_true h11
   refine At.skip ?_
   refine At.next ?_
   refine At.seq ?_
   refine At.block ?_
   refine At.region ?_
   refine At.p (some 14) (P_move rfl rfl) ?_
   refine At.p (some 15) (P_move rfl rfl) ?_
   refine At.p (some 16) (P_move rfl rfl) ?_
   refine At.p (some 17) (P_mul_i rfl rfl rfl (by omega)) ?_
   refine At.p (some 18) (P_shr_w UK.u64 (n := 64) rfl rfl rfl (by first | decide | omega)) ?_
   refine At.p (some 19) (P_conv_ww UK.u8 (m := 64) rfl Try.underlying22 Try.underlying5 rfl) ?_
   refine At.s (S_buildSliceV (some 20) 20 (([((n >>> ((8 * ((sz : Int) - 1 - (k : Int))) : Int).toNat).setWidth 8)]).map u8V) rfl Try.underlying27 sz5 ze5 rfl rfl (by decide) (by decide) rfl rfl (fun b20 => ?_))
   refine At.s (S_appendInM (some 21) 0 ((splice l p ((beW sz n).take (k + 1)))) (f := u8V) (l := (splice l p ((beW sz n).take k))) (L := [((n >>> ((8 * ((sz : Int) - 1 - (k : Int))) : Int).toNat).setWidth 8)]) (n := (p + k)) (m := 1) rfl Try.underlying27 Try.underlying27 (.inr ⟨_, rfl⟩) sz5 rfl rfl rfl OG OG OG (Src.all (k := 20) (l := [((n >>> ((8 * ((sz : Int) - 1 - (k : Int))) : Int).toNat).setWidth 8)]) rfl (fun _ => rfl) (fun _ => ⟨rfl, rfl, rfl⟩) LN) (fun _ => rfl) (by rw [beW_succ (by omega), ← splice_push htl (by simp; omega), show (8 * ((sz : Int) - 1 - (k : Int))).toNat = 8 * (sz - 1 - k) by omega]) LN ?_)
   refine At.p (some 0) (P_assign rfl rfl) ?_
   refine At.nil ?_
   refine At.inb_n ?_
   refine At.next ?_
   refine At.region ?_
   refine At.p (some 12) (P_move rfl rfl) ?_
   refine At.p (some 13) (P_sub_i rfl rfl rfl (by omega)) ?_
   refine At.p (some 7) (P_assign rfl rfl) ?_
   refine At.nil ?_
   refine At.next ?_
   refine At.to [(0, _), (1, _), (2, _), (6, _), (7, iV ((sz : Int) - 1 - ((k + 1 : Nat) : Int))), (8, _), (9, _)] [(0, _)] (AllL.cons_ (rfl) (AllL.cons_ (rfl) (AllL.cons_ (rfl) (AllL.cons_ (rfl) (AllL.cons_ ((congrArg (fun z : Int => some (iV z)) (by omega))) (AllL.cons_ (rfl) (AllL.cons_ (rfl) trivial))))))) (AllL.cons_ (rfl) trivial) ?_
   exact hKc0 _ _ _ (by omega) ⟨k + 1, rfl, rfl, rfl, (by omega)⟩
  · -- cond 11 f
   have e11 : ¬ ((sz : Int) - 1 - (k : Int)) ≥ 0 := of_decide_eq_false h11
   refine At.exit ?_
   refine At.thn_e ?_
   refine At.thn_e ?_
   refine At.inb_hit ?_
   refine At.next ?_
   refine At.seq ?_
   refine At.region ?_
   refine At.p (some 22) (P_move rfl rfl) ?_
   refine At.p (some 6) (P_assign rfl rfl) ?_
   refine At.nil ?_
   refine At.next ?_
   refine At.ret ?_
   refine At.give (.inl rfl) [0] (rows' := [_]) (vs := [_]) rfl ⟨rfl, trivial⟩ rfl (by simp) (by simp) ⟨by rw [show k = sz by omega]; rfl, by rw [show k = sz by omega, List.take_of_length_le (Nat.le_of_eq (beW_len _ _))]⟩

set_option maxHeartbeats 2000000 in
theorem c_mark {gen : BitVec 64} {k : Nat} {e : List (BitVec 8)} {Ae : Option Addr} {ne ce be qe : Nat} (hne : e.length = ne) (hAe : 0 < ne → Ae = some ⟨be, qe, none⟩) (hl : ne ≤ 1000) :
  Con Try.prog 59 [u64V gen, iV (k : Int), .slice Ae ne ce] [pRow be qe e] (fun v rs => ∃ b', v = .slice (some ⟨b', 0, none⟩) 16 32 ∧ rs = [⟨true, b', 0, 91, (sumS (mkP gen k e)).map u8V, 0⟩]) := by
 refine Con.enter Try.func59 Try.ntmps59 (Nat.le_of_ble_eq_true rfl) rfl fun w => ?_
 refine At.seq ?_
 refine At.region ?_
 refine At.p (some 6) (P_assign rfl rfl) ?_
 refine At.nil ?_
 refine At.next ?_
 refine At.seq ?_
 refine At.region ?_
 refine At.p (some 9) (P_move rfl rfl) ?_
 refine At.empty 900 0 5 ?_
 refine At.s (S_callR (some 10) [(900, _)] [] [10] (vs := [_, _, _]) rfl en53 rfl (ON rfl rfl O0) (by simp) V0 (by simp) (c_big (b := ([] : List (BitVec 8))) (Ab := none) (cb := 0) (bb := 0) (n := gen) (sz := 8) (fun h => absurd h (Nat.lt_irrefl 0)) OG OG OG) (by rintro _ _ ⟨A10, b10, c10, g10a, g10b, rfl, rfl⟩; rfl) ?_)
 rintro _ _ ⟨A10, b10, c10, g10a, g10b, rfl, rfl⟩
 have := beW_len 8 gen
 refine At.p (some 7) (P_assign rfl rfl) ?_
 refine At.nil ?_
 refine At.next ?_
 refine At.seq ?_
 refine At.region ?_
 refine At.p (some 11) (P_move rfl rfl) ?_
 refine At.p (some 12) (P_move rfl rfl) ?_
 refine At.p (some 13) (P_conv_iw UK.u64 rfl Try.underlying3 Try.underlying22 rfl) ?_
 refine At.s (S_callR (some 14) [(10, _)] [] [14] (vs := [_, _, _]) rfl en53 rfl (ON rfl rfl O0) (by simp) V0 (by simp) (c_big (b := (([] : List (BitVec 8)) ++ beW 8 gen)) (Ab := A10) (cb := c10) (bb := b10) (n := (BitVec.ofInt 64 (k : Int))) (sz := 4) g10a OG OG OG) (by rintro _ _ ⟨A14, b14, c14, g14a, g14b, rfl, rfl⟩; rfl) ?_)
 rintro _ _ ⟨A14, b14, c14, g14a, g14b, rfl, rfl⟩
 have := beW_len 4 (BitVec.ofInt 64 (k : Int))
 refine At.p (some 7) (P_assign rfl rfl) ?_
 refine At.nil ?_
 refine At.next ?_
 refine At.seq ?_
 refine At.region ?_
 refine At.p (some 15) (P_move rfl rfl) ?_
 refine At.p (some 16) (P_move rfl rfl) ?_
 refine At.p (some 17) (P_len_sl rfl rfl ⟨_, Try.underlying27⟩ rfl) ?_
 refine At.p (some 18) (P_conv_iw UK.u64 rfl Try.underlying3 Try.underlying22 rfl) ?_
 refine At.s (S_callR (some 19) [(14, _)] [] [19] (vs := [_, _, _]) rfl en53 rfl (ON rfl rfl O0) (by simp) V0 (by simp) (c_big (b := ((([] : List (BitVec 8)) ++ beW 8 gen) ++ beW 4 (BitVec.ofInt 64 (k : Int)))) (Ab := A14) (cb := c14) (bb := b14) (n := (BitVec.ofInt 64 (ne : Int))) (sz := 2) g14a OG OG OG) (by rintro _ _ ⟨A19, b19, c19, g19a, g19b, rfl, rfl⟩; rfl) ?_)
 rintro _ _ ⟨A19, b19, c19, g19a, g19b, rfl, rfl⟩
 have := beW_len 2 (BitVec.ofInt 64 (ne : Int))
 refine At.p (some 7) (P_assign rfl rfl) ?_
 refine At.nil ?_
 refine At.next ?_
 refine At.seq ?_
 refine At.region ?_
 refine At.p (some 20) (P_move rfl rfl) ?_
 refine At.p (some 21) (P_move rfl rfl) ?_
 refine At.s (S_appendM (some 22) 19 ((((([] : List (BitVec 8)) ++ beW 8 gen) ++ beW 4 (BitVec.ofInt 64 (k : Int))) ++ beW 2 (BitVec.ofInt 64 (ne : Int)) ++ e)) (f := u8V) (l := (((([] : List (BitVec 8)) ++ beW 8 gen) ++ beW 4 (BitVec.ofInt 64 (k : Int))) ++ beW 2 (BitVec.ofInt 64 (ne : Int)))) (L := e) (m := ne) rfl Try.underlying27 Try.underlying27 (.inr ⟨_, rfl⟩) sz5 by5 ze5 rfl rfl (fun h => ⟨g19a h, rfl⟩) LN OG (Src.all (k := 0) (l := e) rfl hAe (fun _ => ⟨rfl, rfl, rfl⟩) LN) (fun _ => rfl) OG OG rfl LN ?_)
 intro A22 b22 c22 g22a g22b
 refine At.s (S_callV (some 23) [(19, _)] [] (vs := [_]) rfl en54 rfl (VN (by simp) rfl View.all V0) (by simp) (c_SumN (l := (((([] : List (BitVec 8)) ++ beW 8 gen) ++ beW 4 (BitVec.ofInt 64 (k : Int))) ++ beW 2 (BitVec.ofInt 64 (ne : Int)) ++ e)) (n := ((((([] : List (BitVec 8)) ++ beW 8 gen) ++ beW 4 (BitVec.ofInt 64 (k : Int))) ++ beW 2 (BitVec.ofInt 64 (ne : Int)) ++ e).length)) (A := A22) (bq := b22) (q := 0) LN (fun h => g22a (by omega)) OG) (by rintro _ _ ⟨rfl, rfl⟩; rfl) ?_)
 rintro _ _ ⟨rfl, rfl⟩
 have := sumS_len (((([] : List (BitVec 8)) ++ beW 8 gen) ++ beW 4 (BitVec.ofInt 64 (k : Int))) ++ beW 2 (BitVec.ofInt 64 (ne : Int)) ++ e)
 refine At.s (S_alloc (some 8) 8 (zs := (List.replicate 32 0#8).map u8V) rfl ze91 rfl (fun b8 => ?_))
 refine At.s (S_storeA none (k := 8) (vs := (sumS (((([] : List (BitVec 8)) ++ beW 8 gen) ++ beW 4 (BitVec.ofInt 64 (k : Int))) ++ beW 2 (BitVec.ofInt 64 (ne : Int)) ++ e)).map u8V) rfl rfl rfl (by rw [sz91]; exact congrArg some LN) rfl (one_map (fun _ => rfl)) NG rfl LN ?_)
 refine At.nil ?_
 refine At.next ?_
 refine At.seq ?_
 refine At.region ?_
 refine At.p (some 24) (P_slice_arr1 (l := 0) (h := 16) (m := 32) rfl Try.underlying91 sz5 rfl rfl ⟨_, _, rfl, rfl⟩ rfl DO DO DO DO) ?_
 refine At.p (some 6) (P_assign rfl rfl) ?_
 refine At.nil ?_
 refine At.next ?_
 refine At.ret ?_
 refine At.give (.inl rfl) [8] (rows' := [_]) (vs := [_]) rfl ⟨rfl, trivial⟩ rfl (by simp) (by simp) ⟨b8, rfl, by rw [mkP, hne]; rfl⟩

set_option maxHeartbeats 2000000 in
theorem c_sectors {gen : BitVec 64} {k : Nat} {e : List (BitVec 8)} {Ae : Option Addr} {ne ce be qe : Nat} (hne : e.length = ne) (hAe : 0 < ne → Ae = some ⟨be, qe, none⟩) (hl : ne ≤ 14) :
  Con Try.prog 56 [u64V gen, iV (k : Int), .slice Ae ne ce] [pRow be qe e] (fun v rs => ∃ (A' : Option Addr) (b' c' : Nat), (0 < c' → A' = some ⟨b', 0, none⟩) ∧ (secB gen k e).length ≤ c' ∧ v = .slice A' (secB gen k e).length c' ∧ rs = [⟨true, b', 0, 5, (secB gen k e).map u8V, c' - (secB gen k e).length⟩]) := by
 refine Con.enter Try.func56 Try.ntmps56 (Nat.le_of_ble_eq_true rfl) rfl fun w => ?_
 refine At.seq ?_
 refine At.region ?_
 refine At.p (some 6) (P_assign rfl rfl) ?_
 refine At.nil ?_
 refine At.next ?_
 refine At.seq ?_
 refine At.region ?_
 refine At.p (some 8) (P_move rfl rfl) ?_
 refine At.p (some 9) (P_move rfl rfl) ?_
 refine At.p (some 10) (P_move rfl rfl) ?_
 have hml : (sumS (mkP gen k e)).length = 32 := sumS_len _
 refine At.s (S_callV (some 11) [(0, _)] [11] (vs := [_, _, _]) rfl en59 rfl (VN (by simp) rfl View.all V0) (by simp) (c_mark (gen := gen) (k := k) (e := e) (ne := ne) (Ae := Ae) (ce := ce) (be := be) (qe := qe) LN hAe (by omega)) (by rintro _ _ ⟨b11, rfl, rfl⟩; rfl) ?_)
 rintro _ _ ⟨b11, rfl, rfl⟩
 refine At.p (some 12) (P_move rfl rfl) ?_
 refine At.p (some 13) (P_len_sl rfl rfl ⟨_, Try.underlying27⟩ rfl) ?_
 refine At.p (some 14) (P_conv_iw UK.u64 rfl Try.underlying3 Try.underlying22 rfl) ?_
 have hspl : (splice (sumS (mkP gen k e)) 16 (beW 2 (BitVec.ofInt 64 (ne : Int)))).length = 32 := splice_len (by assumption) (by rw [beW_len]; omega)
 refine At.s (S_callR (some 15) [(11, _)] [] [11] (vs := [_, _, _]) rfl en53 rfl (ON rfl rfl O0) (by simp) V0 (by simp) (c_bigA (bA := b11) (p := 16) (l := (sumS (mkP gen k e))) (n := (BitVec.ofInt 64 (ne : Int))) (sz := 2) LN (by omega) (by omega)) (by rintro _ _ ⟨rfl, rfl⟩; rfl) ?_)
 rintro _ _ ⟨rfl, rfl⟩
 refine At.p (some 7) (P_assign rfl rfl) ?_
 refine At.nil ?_
 refine At.next ?_
 refine At.seq ?_
 refine At.region ?_
 refine At.p (some 16) (P_move rfl rfl) ?_
 refine At.p (some 17) (P_move rfl rfl) ?_
 refine At.s (S_appendInM (some 18) 11 ((splice (splice (sumS (mkP gen k e)) 16 (beW 2 (BitVec.ofInt 64 (ne : Int)))) (16 + 2) e)) (f := u8V) (l := (splice (sumS (mkP gen k e)) 16 (beW 2 (BitVec.ofInt 64 (ne : Int))))) (L := e) (n := (16 + 2)) (m := ne) rfl Try.underlying27 Try.underlying27 (.inr ⟨_, rfl⟩) sz5 rfl rfl rfl OG OG OG (Src.all (k := 0) (l := e) rfl hAe (fun _ => ⟨rfl, rfl, rfl⟩) LN) (fun _ => rfl) rfl LN ?_)
 have hsp2 : (splice (splice (sumS (mkP gen k e)) 16 (beW 2 (BitVec.ofInt 64 (ne : Int)))) (16 + 2) e).length = 32 := splice_len hspl (by omega)
 refine At.p (some 7) (P_assign rfl rfl) ?_
 refine At.nil ?_
 refine At.next ?_
 refine At.seq ?_
 refine At.region ?_
 refine At.p (some 19) (P_move rfl rfl) ?_
 refine At.p (some 20) (P_move rfl rfl) ?_
 refine At.p (some 21) (P_len_sl rfl rfl ⟨_, Try.underlying27⟩ rfl) ?_
 refine At.s (S_callV (some 22) [] [] (vs := [_]) rfl en26 rfl V0 (by simp) (c_Need (n := ne) OG) (by rintro _ _ ⟨rfl, rfl⟩; rfl) ?_)
 rintro _ _ ⟨rfl, rfl⟩
 refine At.p (some 23) (P_mul_i rfl rfl rfl (by omega)) ?_
 refine At.p (some 24) (P_move rfl rfl) ?_
 refine At.p (some 25) (P_len_sl rfl rfl ⟨_, Try.underlying27⟩ rfl) ?_
 refine At.p (some 26) (P_sub_i rfl rfl rfl (by omega)) ?_
 refine At.s (S_appendVZ (some 27) 27 ((((splice (splice (sumS (mkP gen k e)) 16 (beW 2 (BitVec.ofInt 64 (ne : Int)))) (16 + 2) e).take ((16 + 2) + ne)) ++ List.replicate (64 - (16 + 2 + ne)) 0#8)) (0#8) (f := u8V) (l := ((splice (splice (sumS (mkP gen k e)) 16 (beW 2 (BitVec.ofInt 64 (ne : Int)))) (16 + 2) e).take ((16 + 2) + ne))) (m := (64 - (16 + 2 + ne))) rfl Try.underlying27 Try.underlying3 sz5 by5 ze5 rfl rfl (Src.part (k := 11) (j := 0) (l := (splice (splice (sumS (mkP gen k e)) 16 (beW 2 (BitVec.ofInt 64 (ne : Int)))) (16 + 2) e)) rfl (fun _ => rfl) (fun _ => ⟨rfl, rfl, rfl⟩) OG) OG rfl OG OG OG rfl ?_)
 intro b27 c27 g27b
 refine At.p (some 6) (P_assign rfl rfl) ?_
 refine At.nil ?_
 refine At.next ?_
 refine At.ret ?_
 have hq0 : (((splice (splice (sumS (mkP gen k e)) 16 (beW 2 (BitVec.ofInt 64 (ne : Int)))) (16 + 2) e).take ((16 + 2) + ne)) ++ List.replicate (64 - (16 + 2 + ne)) 0#8) = secB gen k e := (sec_of hne (by omega))
 refine At.give (.inl rfl) [27] (rows' := [_]) (vs := [_]) rfl ⟨rfl, trivial⟩ rfl (by simp) (by simp) ⟨(some ⟨b27, 0, none⟩), b27, c27, (fun _ => rfl), (by rw [← hq0]; first | omega | (simp; done) | (simp <;> omega) | exact Nat.le_refl _), (by first | (rw [hq0]; try rfl; done) | (rw [← hq0]; try rfl; done) | (simp only [hq0]; try rfl; done) | (simp only [← hq0]; try rfl; done) | rfl), (by first | (rw [hq0]; try rfl; done) | (rw [← hq0]; try rfl; done) | (simp only [hq0]; try rfl; done) | (simp only [← hq0]; try rfl; done) | rfl)⟩


end Go.Proofs.Ytdingfinclcbgaa

