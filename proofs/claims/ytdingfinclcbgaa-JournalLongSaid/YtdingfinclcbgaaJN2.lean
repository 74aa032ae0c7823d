import Derived.Test.YtdingfinclcbgaaJN1
import Derived.Test.YtdingfinclcbgaaJD1
namespace Go.Proofs.Ytdingfinclcbgaa
set_option maxRecDepth 20000
set_option linter.unusedVariables false
set_option linter.unusedSimpArgs false
open Go.SE Go.RowKit
/-- what the slots tell, one by one -/
def pk1 (x : BitVec 64 × Int × Bool) (b : List (BitVec 8)) : BitVec 64 × Int × Bool :=
 if tdOk b = true ∧ (x.2.2 = false ∨ x.1 < tdG b) then (tdG b, tdA b, true) else x
def pkS (S : List (BitVec 8)) : Nat → BitVec 64 × Int × Bool
 | 0 => (0#64, 0, false)
 | k + 1 => pk1 (pkS S k) (secs S k)
theorem pk_y {x : BitVec 64 × Int × Bool} {b : List (BitVec 8)} (h1 : tdOk b = true) (h2 : x.1.toNat < (tdG b).toNat) : pk1 x b = (tdG b, tdA b, true) := by
 unfold pk1
 rw [if_pos ⟨h1, .inr h2⟩]
theorem pk_f {x : BitVec 64 × Int × Bool} {b : List (BitVec 8)} (h1 : tdOk b = true) (h2 : (!x.2.2) = true) : pk1 x b = (tdG b, tdA b, true) := by
 unfold pk1
 rw [if_pos ⟨h1, .inl (by simpa using h2)⟩]
theorem pk_n {x : BitVec 64 × Int × Bool} {b : List (BitVec 8)} (h1 : tdOk b = true) (h2 : (!x.2.2) = false) (h3 : ¬ x.1.toNat < (tdG b).toNat) : pk1 x b = x := by
 unfold pk1
 rw [if_neg]
 rintro ⟨_, h | h⟩
 ·
  rw [h] at h2
  cases h2
 · exact h3 h
theorem pk_0 {x : BitVec 64 × Int × Bool} {b : List (BitVec 8)} (h1 : tdOk b = false) : pk1 x b = x := by
 unfold pk1
 rw [if_neg]
 rintro ⟨h, _⟩
 rw [h] at h1
 cases h1
theorem splice_push {α : Type} {l X Y : List α} {p k : Nat} (hX : X.length = k) (h : p + k + Y.length ≤ l.length) : splice (splice l p X) (p + k) Y = splice l p (X ++ Y) := by
 subst hX
 have hl : (l.take p ++ X).length = p + X.length := by rw [List.length_append, List.length_take]; omega
 unfold splice
 rw [show (l.take p ++ X ++ l.drop (p + X.length)).take (p + X.length) = l.take p ++ X by rw [← hl, List.take_left], show (l.take p ++ X ++ l.drop (p + X.length)).drop (p + X.length + Y.length) = l.drop (p + (X ++ Y).length) by
  rw [List.drop_append, List.drop_eq_nil_of_le (by omega), List.nil_append, hl, List.drop_drop, List.length_append]
  congr 1
  omega]
 simp

attribute [local irreducible] sumS
set_option maxHeartbeats 2000000 in
theorem c_usable {bD bS cD nD rD : Nat} {S : List (BitVec 8)} {wr : Int} (hSl : S.length = nD * 64) (hn : nD ≤ 512) (hc : nD ≤ cD) (hw : 0 ≤ wr) (hw2 : wr ≤ 4611686018427380000) (h4 : 4 ≤ nD) :
  Con Try.prog 43 [ptr bD 0] [dH false bD bS cD nD wr, rowS false bS S rD] (fun v rs => v = iV 0 ∧ rs = []) := by
 refine Con.enter Try.func43 Try.ntmps43 (Nat.le_of_ble_eq_true rfl) rfl fun w => ?_
 refine At.seq ?_
 refine At.region ?_
 refine At.p (some 2) (P_assign rfl rfl) ?_
 refine At.nil ?_
 refine At.next ?_
 refine At.seq ?_
 refine At.seq ?_
 refine At.region ?_
 refine At.p (some 3) (P_move rfl rfl) ?_
 refine At.p (some 4) (P_eql_ptr rfl rfl rfl Try.underlying23) ?_
 refine At.p (some 5) (P_move rfl rfl) ?_
 refine At.gy (t := 5) rfl rfl rfl rfl ?_
 refine At.p (some 6) (P_move rfl rfl) ?_
 refine At.gy (t := 5) rfl rfl rfl rfl ?_
 refine At.s (S_callV (some 7) [(0, _)] [] (vs := [_]) rfl en18 rfl (VN (by simp) rfl View.all V0) (by simp) (c_SizeH (n := nD) (c := cD) (b := bD) (bs := bS) (wr := wr)) (by rintro _ _ ⟨rfl, rfl⟩; rfl) ?_)
 rintro _ _ ⟨rfl, rfl⟩
 refine At.gy (t := 5) rfl rfl rfl rfl ?_
 refine At.p (some 8) (P_cmp rfl rfl rfl rfl rfl rfl) ?_
 refine At.p (some 9) (P_pick_f rfl rfl rfl rfl) ?_
 refine At.nil ?_
 refine At.next ?_
 refine At.cond rfl (fun h9 => by have := of_decide_eq_true h9; omega) (fun h9 => ?_)
 have e9 : ¬ (nD : Int) < 4 := of_decide_eq_false h9
 refine At.skip ?_
 refine At.next ?_
 refine At.seq ?_
 refine At.region ?_
 refine At.p (some 2) (P_assign rfl rfl) ?_
 refine At.nil ?_
 refine At.next ?_
 refine At.ret ?_
 refine At.give (.inl rfl) [] (rows' := []) (vs := [_]) rfl ⟨rfl, trivial⟩ rfl (by simp) (by simp) ⟨rfl, rfl⟩

set_option maxHeartbeats 2000000 in
theorem c_newest {bD bS cD nD rD : Nat} {S : List (BitVec 8)} {wr : Int} (hSl : S.length = nD * 64) (hn : nD ≤ 512) (hc : nD ≤ cD) (hw : 0 ≤ wr) (hw2 : wr ≤ 4611686018427380000) (h4 : 4 ≤ nD) :
  Con Try.prog 44 [ptr bD 0] [dH false bD bS cD nD wr, rowS false bS S rD] (fun v rs => v = .tuple #[u64V ((pkS S 2).1), iV ((pkS S 2).2.1), .bool ((pkS S 2).2.2), iV 0] ∧ rs = []) := by
 refine Con.enter Try.func44 Try.ntmps44 (Nat.le_of_ble_eq_true rfl) rfl fun w => ?_
 refine At.seq ?_
 refine At.region ?_
 refine At.p (some 2) (P_assign rfl rfl) ?_
 refine At.p (some 3) (P_assign rfl rfl) ?_
 refine At.p (some 4) (P_assign rfl rfl) ?_
 refine At.p (some 5) (P_assign rfl rfl) ?_
 refine At.nil ?_
 refine At.next ?_
 refine At.seq ?_
 refine At.region ?_
 refine At.p (some 6) (P_assign rfl rfl) ?_
 refine At.p (some 7) (P_assign rfl rfl) ?_
 refine At.p (some 8) (P_assign rfl rfl) ?_
 refine At.nil ?_
 refine At.next ?_
 refine At.seq ?_
 refine At.seq ?_
 refine At.region ?_
 refine At.p (some 15) (P_move rfl rfl) ?_
 refine At.nil ?_
 refine At.next ?_
 refine At.block ?_
 refine At.loopx (I := fun m fr H => ∃ (k : Nat), m = 2 - k ∧ fr = frOf [(0, ptr bD 0), (6, u64V ((pkS S k).1)), (7, iV ((pkS S k).2.1)), (8, .bool ((pkS S k).2.2)), (15, iV (k : Int))] ∧ H = hOf [(0, dH false bD bS cD nD wr), (1, rowS false bS S rD)] ∧ (k ≤ 2)) ?_ ?_
 ·
  intro Kc0 hKc0
  refine At.to [(0, _), (6, u64V (pkS S 0).1), (7, iV (pkS S 0).2.1), (8, .bool (pkS S 0).2.2), (15, _)] [(0, _), (1, _)] (AllL.cons_ (rfl) (AllL.cons_ (rfl) (AllL.cons_ (rfl) (AllL.cons_ (rfl) (AllL.cons_ (rfl) trivial))))) (AllL.cons_ (rfl) (AllL.cons_ (rfl) trivial)) ?_
  exact hKc0 _ _ _ ⟨0, rfl, rfl, rfl, (by omega)⟩
 ·
  rintro m fr H ⟨k, rfl, rfl, rfl, hk⟩ Kc0 hKc0
  refine At.seq ?_
  refine At.region ?_
  refine At.p (some 16) (P_cmp rfl rfl rfl rfl rfl rfl) ?_
  refine At.nil ?_
  refine At.next ?_
  refine At.seq ?_
  refine At.cond rfl (fun h16 => ?_) (fun h16 => ?_)
  · -- cond 16 t
   have e16 : (k : Int) < 2 := of_decide_eq_true h16
   refine At.skip ?_
   refine At.next ?_
   refine At.seq ?_
   refine At.block ?_
   refine At.seq ?_
   refine At.region ?_
   refine At.p (some 17) (P_move rfl rfl) ?_
   refine At.p (some 9) (P_assign rfl rfl) ?_
   refine At.nil ?_
   refine At.next ?_
   refine At.seq ?_
   refine At.region ?_
   refine At.p (some 19) (P_move rfl rfl) ?_
   refine At.p (some 20) (P_move rfl rfl) ?_
   refine At.s (S_callV (some 21) [(0, _), (1, _)] [21] (vs := [_, _]) rfl en13 rfl (VN (by simp) rfl View.all (VN (by simp) rfl View.all V0)) (by simp) (c_ReadH (n := nD) (c := cD) (b := bD) (bs := bS) (wr := wr) (rest := rD) (k := k) (S := S) (by omega) (by omega) (by omega) (by omega) (by omega) (by omega)) (by rintro _ _ ⟨A21, b21, c21, g21a, g21b, rfl, rfl⟩; rfl) ?_)
   rintro _ _ ⟨A21, b21, c21, g21a, g21b, rfl, rfl⟩
   have := secs_len (S := S) (n := nD) (k := k) (by omega) (by omega)
   refine At.p (some 18) (P_move rfl rfl) ?_
   refine At.p (some 22) (P_extract rfl rfl rfl) ?_
   refine At.p (some 23) (P_extract rfl rfl rfl) ?_
   refine At.p (some 10) (P_assign rfl rfl) ?_
   refine At.p (some 11) (P_assign rfl rfl) ?_
   refine At.nil ?_
   refine At.next ?_
   refine At.seq ?_
   refine At.seq ?_
   refine At.region ?_
   refine At.p (some 24) (P_move rfl rfl) ?_
   refine At.p (some 25) (P_cmp rfl rfl rfl rfl rfl rfl) ?_
   refine At.nil ?_
   refine At.next ?_
   refine At.cond rfl (fun h25 => by exact absurd h25 (by decide)) (fun h25 => ?_)
   have e25 : 0 = 0 := bne_eq_false_iff_eq.1 h25
   refine At.skip ?_
   refine At.next ?_
   refine At.seq ?_
   refine At.region ?_
   refine At.p (some 28) (P_move rfl rfl) ?_
   refine At.s (S_callV (some 29) [(21, _)] [] (vs := [_]) rfl en52 rfl (VN (by simp) rfl View.all V0) (by simp) (c_told (b := (secs S k)) (nb := ((secs S k).length)) (Ab := A21) (cb := c21) (bb := b21) (qb := 0) LN (fun h => g21a (by omega)) OG OG) (by rintro _ _ ⟨rfl, rfl⟩; rfl) ?_)
   rintro _ _ ⟨rfl, rfl⟩
   refine At.p (some 27) (P_move rfl rfl) ?_
   refine At.p (some 30) (P_extract rfl rfl rfl) ?_
   refine At.p (some 31) (P_extract rfl rfl rfl) ?_
   refine At.p (some 32) (P_extract rfl rfl rfl) ?_
   refine At.p (some 12) (P_assign rfl rfl) ?_
   refine At.p (some 13) (P_assign rfl rfl) ?_
   refine At.p (some 14) (P_assign rfl rfl) ?_
   refine At.nil ?_
   refine At.next ?_
   refine At.seq ?_
   refine At.region ?_
   refine At.p (some 33) (P_move rfl rfl) ?_
   refine At.p (some 34) (P_move rfl rfl) ?_
   refine At.gsplit (t := 34) (want := true) rfl (fun g1 => ?_) (fun g1 => ?_)
   ·
    have eg1 : tdOk (secs S k) = true := g1
    refine At.gy (t := 34) rfl g1 rfl rfl ?_
    refine At.p (some 35) (P_move rfl rfl) ?_
    refine At.gy (t := 34) rfl g1 rfl rfl ?_
    refine At.p (some 36) (P_not rfl rfl) ?_
    refine At.gy (t := 34) rfl g1 rfl rfl ?_
    refine At.p (some 37) (P_move rfl rfl) ?_
    refine At.gsplit (t := 37) (want := false) rfl (fun g2 => ?_) (fun g2 => ?_)
    ·
     refine At.gy (t := 37) rfl g2 rfl rfl ?_
     refine At.p (some 38) (P_move rfl rfl) ?_
     refine At.gy (t := 37) rfl g2 rfl rfl ?_
     refine At.p (some 39) (P_move rfl rfl) ?_
     refine At.gy (t := 37) rfl g2 rfl rfl ?_
     refine At.p (some 40) (P_gtr_w (n := 64) rfl rfl rfl) ?_
     refine At.gy (t := 34) rfl g1 rfl rfl ?_
     refine At.p (some 41) (P_pick_f rfl rfl g2 rfl) ?_
     refine At.p (some 42) (P_pick_t rfl rfl g1 rfl) ?_
     refine At.nil ?_
     refine At.next ?_
     refine At.cond rfl (fun h42 => ?_) (fun h42 => ?_)
     · -- cond 42 t
      have e42 : ((pkS S k).1).toNat < (tdG (secs S k)).toNat := of_decide_eq_true h42
      refine At.region ?_
      refine At.p (some 43) (P_move rfl rfl) ?_
      refine At.p (some 44) (P_move rfl rfl) ?_
      refine At.p (some 6) (P_assign rfl rfl) ?_
      refine At.p (some 7) (P_assign rfl rfl) ?_
      refine At.p (some 8) (P_assign rfl rfl) ?_
      refine At.nil ?_
      refine At.inb_n ?_
      refine At.next ?_
      refine At.region ?_
      refine At.p (some 45) (P_add_i rfl rfl rfl (by omega)) ?_
      refine At.p (some 15) (P_move rfl rfl) ?_
      refine At.nil ?_
      refine At.next ?_
      refine At.to [(0, _), (6, u64V (pkS S (k + 1)).1), (7, iV (pkS S (k + 1)).2.1), (8, .bool (pkS S (k + 1)).2.2), (15, _)] [(0, _), (1, _)] (AllL.cons_ (rfl) (AllL.cons_ ((congrArg (fun z => some (u64V z)) (by first | exact congrArg (fun z => z.1) (pk_y (x := pkS S k) (b := secs S k) (by assumption) (by assumption)).symm | exact congrArg (fun z => z.1) (pk_f (x := pkS S k) (b := secs S k) (by assumption) (by assumption)).symm | exact congrArg (fun z => z.1) (pk_n (x := pkS S k) (b := secs S k) (by assumption) (by assumption) (by assumption)).symm | exact congrArg (fun z => z.1) (pk_0 (x := pkS S k) (b := secs S k) (by assumption)).symm))) (AllL.cons_ ((congrArg (fun z => some (iV z)) (by first | exact congrArg (fun z => z.2.1) (pk_y (x := pkS S k) (b := secs S k) (by assumption) (by assumption)).symm | exact congrArg (fun z => z.2.1) (pk_f (x := pkS S k) (b := secs S k) (by assumption) (by assumption)).symm | exact congrArg (fun z => z.2.1) (pk_n (x := pkS S k) (b := secs S k) (by assumption) (by assumption) (by assumption)).symm | exact congrArg (fun z => z.2.1) (pk_0 (x := pkS S k) (b := secs S k) (by assumption)).symm))) (AllL.cons_ ((congrArg (fun z => some (Value.bool z)) (by first | exact congrArg (fun z => z.2.2) (pk_y (x := pkS S k) (b := secs S k) (by assumption) (by assumption)).symm | exact congrArg (fun z => z.2.2) (pk_f (x := pkS S k) (b := secs S k) (by assumption) (by assumption)).symm | exact congrArg (fun z => z.2.2) (pk_n (x := pkS S k) (b := secs S k) (by assumption) (by assumption) (by assumption)).symm | exact congrArg (fun z => z.2.2) (pk_0 (x := pkS S k) (b := secs S k) (by assumption)).symm))) (AllL.cons_ (rfl) trivial))))) (AllL.cons_ (rfl) (AllL.cons_ (rfl) trivial)) ?_
      exact hKc0 _ _ _ (by omega) ⟨k + 1, rfl, rfl, rfl, (by omega)⟩
     · -- cond 42 f
      have e42 : ¬ ((pkS S k).1).toNat < (tdG (secs S k)).toNat := of_decide_eq_false h42
      refine At.skip ?_
      refine At.inb_n ?_
      refine At.next ?_
      refine At.region ?_
      refine At.p (some 45) (P_add_i rfl rfl rfl (by omega)) ?_
      refine At.p (some 15) (P_move rfl rfl) ?_
      refine At.nil ?_
      refine At.next ?_
      refine At.to [(0, _), (6, u64V (pkS S (k + 1)).1), (7, iV (pkS S (k + 1)).2.1), (8, .bool (pkS S (k + 1)).2.2), (15, _)] [(0, _), (1, _)] (AllL.cons_ (rfl) (AllL.cons_ ((congrArg (fun z => some (u64V z)) (by first | exact congrArg (fun z => z.1) (pk_y (x := pkS S k) (b := secs S k) (by assumption) (by assumption)).symm | exact congrArg (fun z => z.1) (pk_f (x := pkS S k) (b := secs S k) (by assumption) (by assumption)).symm | exact congrArg (fun z => z.1) (pk_n (x := pkS S k) (b := secs S k) (by assumption) (by assumption) (by assumption)).symm | exact congrArg (fun z => z.1) (pk_0 (x := pkS S k) (b := secs S k) (by assumption)).symm))) (AllL.cons_ ((congrArg (fun z => some (iV z)) (by first | exact congrArg (fun z => z.2.1) (pk_y (x := pkS S k) (b := secs S k) (by assumption) (by assumption)).symm | exact congrArg (fun z => z.2.1) (pk_f (x := pkS S k) (b := secs S k) (by assumption) (by assumption)).symm | exact congrArg (fun z => z.2.1) (pk_n (x := pkS S k) (b := secs S k) (by assumption) (by assumption) (by assumption)).symm | exact congrArg (fun z => z.2.1) (pk_0 (x := pkS S k) (b := secs S k) (by assumption)).symm))) (AllL.cons_ ((congrArg (fun z => some (Value.bool z)) (by first | exact congrArg (fun z => z.2.2) (pk_y (x := pkS S k) (b := secs S k) (by assumption) (by assumption)).symm | exact congrArg (fun z => z.2.2) (pk_f (x := pkS S k) (b := secs S k) (by assumption) (by assumption)).symm | exact congrArg (fun z => z.2.2) (pk_n (x := pkS S k) (b := secs S k) (by assumption) (by assumption) (by assumption)).symm | exact congrArg (fun z => z.2.2) (pk_0 (x := pkS S k) (b := secs S k) (by assumption)).symm))) (AllL.cons_ (rfl) trivial))))) (AllL.cons_ (rfl) (AllL.cons_ (rfl) trivial)) ?_
      exact hKc0 _ _ _ (by omega) ⟨k + 1, rfl, rfl, rfl, (by omega)⟩
    ·
     refine At.gn (some 38) (t := 37) rfl g2 rfl rfl ?_
     refine At.gn (some 39) (t := 37) rfl g2 rfl rfl ?_
     refine At.gn (some 40) (t := 37) rfl g2 rfl rfl ?_
     refine At.gy (t := 34) rfl g1 rfl rfl ?_
     refine At.p (some 41) (P_pick_t rfl rfl g2 rfl) ?_
     refine At.p (some 42) (P_pick_t rfl rfl g1 rfl) ?_
     refine At.nil ?_
     refine At.next ?_
     refine At.cond rfl (fun _ => ?_) (fun h => absurd (h.symm.trans rfl) (by decide))
     refine At.region ?_
     refine At.p (some 43) (P_move rfl rfl) ?_
     refine At.p (some 44) (P_move rfl rfl) ?_
     refine At.p (some 6) (P_assign rfl rfl) ?_
     refine At.p (some 7) (P_assign rfl rfl) ?_
     refine At.p (some 8) (P_assign rfl rfl) ?_
     refine At.nil ?_
     refine At.inb_n ?_
     refine At.next ?_
     refine At.region ?_
     refine At.p (some 45) (P_add_i rfl rfl rfl (by omega)) ?_
     refine At.p (some 15) (P_move rfl rfl) ?_
     refine At.nil ?_
     refine At.next ?_
     refine At.to [(0, _), (6, u64V (pkS S (k + 1)).1), (7, iV (pkS S (k + 1)).2.1), (8, .bool (pkS S (k + 1)).2.2), (15, _)] [(0, _), (1, _)] (AllL.cons_ (rfl) (AllL.cons_ ((congrArg (fun z => some (u64V z)) (by first | exact congrArg (fun z => z.1) (pk_y (x := pkS S k) (b := secs S k) (by assumption) (by assumption)).symm | exact congrArg (fun z => z.1) (pk_f (x := pkS S k) (b := secs S k) (by assumption) (by assumption)).symm | exact congrArg (fun z => z.1) (pk_n (x := pkS S k) (b := secs S k) (by assumption) (by assumption) (by assumption)).symm | exact congrArg (fun z => z.1) (pk_0 (x := pkS S k) (b := secs S k) (by assumption)).symm))) (AllL.cons_ ((congrArg (fun z => some (iV z)) (by first | exact congrArg (fun z => z.2.1) (pk_y (x := pkS S k) (b := secs S k) (by assumption) (by assumption)).symm | exact congrArg (fun z => z.2.1) (pk_f (x := pkS S k) (b := secs S k) (by assumption) (by assumption)).symm | exact congrArg (fun z => z.2.1) (pk_n (x := pkS S k) (b := secs S k) (by assumption) (by assumption) (by assumption)).symm | exact congrArg (fun z => z.2.1) (pk_0 (x := pkS S k) (b := secs S k) (by assumption)).symm))) (AllL.cons_ ((congrArg (fun z => some (Value.bool z)) (by first | exact congrArg (fun z => z.2.2) (pk_y (x := pkS S k) (b := secs S k) (by assumption) (by assumption)).symm | exact congrArg (fun z => z.2.2) (pk_f (x := pkS S k) (b := secs S k) (by assumption) (by assumption)).symm | exact congrArg (fun z => z.2.2) (pk_n (x := pkS S k) (b := secs S k) (by assumption) (by assumption) (by assumption)).symm | exact congrArg (fun z => z.2.2) (pk_0 (x := pkS S k) (b := secs S k) (by assumption)).symm))) (AllL.cons_ (rfl) trivial))))) (AllL.cons_ (rfl) (AllL.cons_ (rfl) trivial)) ?_
     exact hKc0 _ _ _ (by omega) ⟨k + 1, rfl, rfl, rfl, (by omega)⟩
   ·
    have eg1 : tdOk (secs S k) = false := g1
    refine At.gn (some 35) (t := 34) rfl g1 rfl rfl ?_
    refine At.gn (some 36) (t := 34) rfl g1 rfl rfl ?_
    refine At.gn (some 37) (t := 34) rfl g1 rfl rfl ?_
    refine At.gu (some 38) (t := 37) rfl rfl rfl ?_
    refine At.gu (some 39) (t := 37) rfl rfl rfl ?_
    refine At.gu (some 40) (t := 37) rfl rfl rfl ?_
    refine At.gn (some 41) (t := 34) rfl g1 rfl rfl ?_
    refine At.p (some 42) (P_pick_f rfl rfl g1 rfl) ?_
    refine At.nil ?_
    refine At.next ?_
    refine At.cond rfl (fun h => absurd (h.symm.trans rfl) (by decide)) (fun _ => ?_)
    refine At.skip ?_
    refine At.inb_n ?_
    refine At.next ?_
    refine At.region ?_
    refine At.p (some 45) (P_add_i rfl rfl rfl (by omega)) ?_
    refine At.p (some 15) (P_move rfl rfl) ?_
    refine At.nil ?_
    refine At.next ?_
    refine At.to [(0, _), (6, u64V (pkS S (k + 1)).1), (7, iV (pkS S (k + 1)).2.1), (8, .bool (pkS S (k + 1)).2.2), (15, _)] [(0, _), (1, _)] (AllL.cons_ (rfl) (AllL.cons_ ((congrArg (fun z => some (u64V z)) (by first | exact congrArg (fun z => z.1) (pk_y (x := pkS S k) (b := secs S k) (by assumption) (by assumption)).symm | exact congrArg (fun z => z.1) (pk_f (x := pkS S k) (b := secs S k) (by assumption) (by assumption)).symm | exact congrArg (fun z => z.1) (pk_n (x := pkS S k) (b := secs S k) (by assumption) (by assumption) (by assumption)).symm | exact congrArg (fun z => z.1) (pk_0 (x := pkS S k) (b := secs S k) (by assumption)).symm))) (AllL.cons_ ((congrArg (fun z => some (iV z)) (by first | exact congrArg (fun z => z.2.1) (pk_y (x := pkS S k) (b := secs S k) (by assumption) (by assumption)).symm | exact congrArg (fun z => z.2.1) (pk_f (x := pkS S k) (b := secs S k) (by assumption) (by assumption)).symm | exact congrArg (fun z => z.2.1) (pk_n (x := pkS S k) (b := secs S k) (by assumption) (by assumption) (by assumption)).symm | exact congrArg (fun z => z.2.1) (pk_0 (x := pkS S k) (b := secs S k) (by assumption)).symm))) (AllL.cons_ ((congrArg (fun z => some (Value.bool z)) (by first | exact congrArg (fun z => z.2.2) (pk_y (x := pkS S k) (b := secs S k) (by assumption) (by assumption)).symm | exact congrArg (fun z => z.2.2) (pk_f (x := pkS S k) (b := secs S k) (by assumption) (by assumption)).symm | exact congrArg (fun z => z.2.2) (pk_n (x := pkS S k) (b := secs S k) (by assumption) (by assumption) (by assumption)).symm | exact congrArg (fun z => z.2.2) (pk_0 (x := pkS S k) (b := secs S k) (by assumption)).symm))) (AllL.cons_ (rfl) trivial))))) (AllL.cons_ (rfl) (AllL.cons_ (rfl) trivial)) ?_
    exact hKc0 _ _ _ (by omega) ⟨k + 1, rfl, rfl, rfl, (by omega)⟩
  · -- cond 16 f
   have e16 : ¬ (k : Int) < 2 := of_decide_eq_false h16
   refine At.exit ?_
   refine At.thn_e ?_
   refine At.thn_e ?_
   refine At.inb_hit ?_
   refine At.next ?_
   refine At.seq ?_
   refine At.region ?_
   refine At.p (some 46) (P_move rfl rfl) ?_
   refine At.p (some 47) (P_move rfl rfl) ?_
   refine At.p (some 48) (P_move rfl rfl) ?_
   refine At.p (some 2) (P_assign rfl rfl) ?_
   refine At.p (some 3) (P_assign rfl rfl) ?_
   refine At.p (some 4) (P_assign rfl rfl) ?_
   refine At.p (some 5) (P_assign rfl rfl) ?_
   refine At.nil ?_
   refine At.next ?_
   refine At.ret ?_
   have hq0 : (pkS S k).1 = (pkS S 2).1 := (by rw [show k = 2 by omega])
   have hq1 : ((pkS S k).2.1 : Int) = (pkS S 2).2.1 := (by rw [show k = 2 by omega])
   have hq2 : ((pkS S k).2.2) = ((pkS S 2).2.2) := (by rw [show k = 2 by omega])
   refine At.give (.inl rfl) [] (rows' := []) (vs := [_, _, _, _]) rfl ⟨rfl, rfl, rfl, rfl, trivial⟩ rfl (by simp) (by simp) ⟨(by first | (rw [hq0, hq1, hq2]; try rfl; done) | (rw [← hq0, ← hq1, ← hq2]; try rfl; done) | (simp only [hq0, hq1, hq2]; try rfl; done) | (simp only [← hq0, ← hq1, ← hq2]; try rfl; done) | rfl), (by first | (rw [hq0, hq1, hq2]; try rfl; done) | (rw [← hq0, ← hq1, ← hq2]; try rfl; done) | (simp only [hq0, hq1, hq2]; try rfl; done) | (simp only [← hq0, ← hq1, ← hq2]; try rfl; done) | rfl)⟩


end Go.Proofs.Ytdingfinclcbgaa

