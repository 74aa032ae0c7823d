import Derived.Test.YtdkeadfhejkidaaXT2
import Derived.Test.YtdkeadfhejkidaaXK1
import Derived.Test.YtdkeadfhejkidaaSE20
import Derived.Test.YtdkeadfhejkidaaSE25
import Derived.Test.YtdkeadfhejkidaaSE31
namespace Go.Proofs.Ytdkeadfhejkidaa
set_option maxRecDepth 20000
set_option linter.unusedVariables false
set_option linter.unusedSimpArgs false
open Go.SE Go.RowKit

theorem blk_at (key info : List (BitVec 8)) {i : Nat} : ∀ k, i < k → ((oK key info k).drop (32 * i)).take 32 = tK key info (i + 1)
  | 0, h => absurd h (Nat.not_lt_zero _)
  | k + 1, h => by
    by_cases e : i = k
    · subst e
      rw [oK, List.drop_left' (oK_len _ _ _), List.take_of_length_le]
      rw [tK_len, if_neg (by omega)]
      exact Nat.le_refl _
    · rw [oK, List.drop_append_of_le_length (by rw [oK_len]; omega), List.take_append_of_le_length (by rw [List.length_drop, oK_len]; omega), blk_at key info k (by omega)]
theorem exp_all (key info : List (BitVec 8)) (k : Nat) : expS key info (32 * k) = oK key info k := by
  rw [expS, show (32 * k + 31) / 32 = k by omega, List.take_of_length_le (by rw [oK_len]; exact Nat.le_refl _)]
theorem exp_block {key info : List (BitVec 8)} {k i : Nat} (h1 : 1 ≤ i) (h2 : i < k) : macS key (((expS key info (32 * k)).drop (32 * i - 32)).take (32 * i - (32 * i - 32)) ++ info ++ [BitVec.ofInt 8 ((i : Int) + 1)]) = ((expS key info (32 * k)).drop (32 * i)).take (32 * i + 32 - 32 * i) := by
  obtain ⟨j, rfl⟩ : ∃ j, i = j + 1 := ⟨i - 1, by omega⟩
  rw [exp_all, show 32 * (j + 1) + 32 - 32 * (j + 1) = 32 by omega, blk_at key info k h2, show 32 * (j + 1) - (32 * (j + 1) - 32) = 32 by omega, show 32 * (j + 1) - 32 = 32 * j by omega, blk_at key info k (by omega), tK.eq_2 key info (j + 1), show ((j + 1 : Nat) : Int) + 1 = ((j + 1 + 1 : Nat) : Int) by omega, BitVec.ofInt_natCast]

set_option maxHeartbeats 2000000 in
theorem c_LabelX {key : List (BitVec 8)} {lb : List (BitVec 8)} {cx : List (BitVec 8)} {Acx : Option Addr} {ncx ccx bcx qcx : Nat} {k : Int} (hkey : key.length = 32) (hncx : cx.length = ncx) (hAcx : 0 < ncx → Acx = some ⟨bcx, qcx, none⟩) (hbad : ¬ (0 ≤ k ∧ k ≤ 8160 ∧ 0 < lb.length ∧ lb.length ≤ 249 ∧ ncx ≤ 255)) :
    Con Try.prog 24 [aggK key, strV lb, .slice Acx ncx ccx, iV k] [pRow bcx qcx cx] (fun v rs => ∃ (A' : Option Addr) (b' c' : Nat), (0 < c' → A' = some ⟨b', 0, none⟩) ∧ ([] : List (BitVec 8)).length ≤ c' ∧ v = .tuple #[.slice A' ([] : List (BitVec 8)).length c', iV 1] ∧ rs = [⟨true, b', 0, 5, (([] : List (BitVec 8))).map u8V, c' - (([] : List (BitVec 8))).length⟩]) := by
  refine Con.enter Try.func24 Try.ntmps24 (Nat.le_of_ble_eq_true rfl) rfl fun w => ?_
  refine At.seq ?_
  refine At.region ?_
  refine At.s (S_box (some 4) 4 (zs := (key).map u8V) rfl rfl rfl (fun b4 => ?_))
  refine At.p (some 8) (P_assign rfl rfl) ?_
  refine At.p (some 9) (P_assign rfl rfl) ?_
  refine At.nil ?_
  refine At.next ?_
  refine At.seq ?_
  refine At.seq ?_
  have hlb : ¬ lb = [] → 0 < lb.length := List.length_pos_iff.2
  refine At.region ?_
  refine At.p (some 11) (P_move rfl rfl) ?_
  refine At.p (some 12) (P_cmp rfl rfl rfl rfl rfl rfl) ?_
  refine At.p (some 13) (P_move rfl rfl) ?_
  refine At.gsplit (t := 13) (want := false) rfl (fun g1 => ?_) (fun g1 => ?_)
  ·
    have eg1 : ¬ k < 0 := of_decide_eq_false g1
    refine At.gy (t := 13) rfl g1 rfl rfl ?_
    refine At.p (some 14) (P_move rfl rfl) ?_
    refine At.gy (t := 13) rfl g1 rfl rfl ?_
    refine At.p (some 15) (P_cmp rfl rfl rfl rfl rfl rfl) ?_
    refine At.p (some 16) (P_pick_f rfl rfl g1 rfl) ?_
    refine At.p (some 17) (P_move rfl rfl) ?_
    refine At.gsplit (t := 17) (want := false) rfl (fun g2 => ?_) (fun g2 => ?_)
    ·
      have eg2 : ¬ k > 8160 := of_decide_eq_false g2
      refine At.gy (t := 17) rfl g2 rfl rfl ?_
      refine At.p (some 18) (P_move rfl rfl) ?_
      refine At.gy (t := 17) rfl g2 rfl rfl ?_
      refine At.p (some 19) (P_eql_str (a := lb) (b := []) rfl rfl rfl) ?_
      refine At.p (some 20) (P_pick_f rfl rfl g2 rfl) ?_
      refine At.p (some 21) (P_move rfl rfl) ?_
      refine At.gsplit (t := 21) (want := false) rfl (fun g3 => ?_) (fun g3 => ?_)
      ·
        have eg3 : ¬ lb = [] := of_decide_eq_false g3
        refine At.gy (t := 21) rfl g3 rfl rfl ?_
        refine At.p (some 22) (P_move rfl rfl) ?_
        refine At.gy (t := 21) rfl g3 rfl rfl ?_
        refine At.p (some 23) (P_len_strV rfl rfl Try.underlying9 rfl) ?_
        refine At.gy (t := 21) rfl g3 rfl rfl ?_
        refine At.p (some 24) (P_cmp rfl rfl rfl rfl rfl rfl) ?_
        refine At.p (some 25) (P_pick_f rfl rfl g3 rfl) ?_
        refine At.p (some 26) (P_move rfl rfl) ?_
        refine At.gsplit (t := 26) (want := false) rfl (fun g4 => ?_) (fun g4 => ?_)
        ·
          have eg4 : ¬ (lb.length : Int) > 249 := of_decide_eq_false g4
          refine At.gy (t := 26) rfl g4 rfl rfl ?_
          refine At.p (some 27) (P_move rfl rfl) ?_
          refine At.gy (t := 26) rfl g4 rfl rfl ?_
          refine At.p (some 28) (P_len_sl rfl rfl ⟨_, Try.underlying22⟩ rfl) ?_
          refine At.gy (t := 26) rfl g4 rfl rfl ?_
          refine At.p (some 29) (P_cmp rfl rfl rfl rfl rfl rfl) ?_
          refine At.p (some 30) (P_pick_f rfl rfl g4 rfl) ?_
          refine At.nil ?_
          refine At.next ?_
          refine At.cond rfl (fun h30 => ?_) (fun h30 => by exfalso; first | omega | (simp at *; done) | (simp at *; omega) | (have h9 := hlb eg3; have h8 := of_decide_eq_false h30; omega) | (have h8 := of_decide_eq_false h31; omega))
          have e30 : (ncx : Int) > 255 := of_decide_eq_true h30
          refine At.seq ?_
          refine At.region ?_
          refine At.p (some 8) (P_assign rfl rfl) ?_
          refine At.p (some 9) (P_assign rfl rfl) ?_
          refine At.nil ?_
          refine At.next ?_
          refine At.ret ?_
          refine At.thn_r ?_
          refine At.empty 990 0 5 ?_
          refine At.give (.inl rfl) [990] (rows' := [_]) (vs := [_, _]) rfl ⟨rfl, rfl, trivial⟩ rfl (by simp) (by simp) ⟨none, 0, 0, (fun h => absurd h (Nat.lt_irrefl 0)), (by first | exact Nat.le_refl _ | simp), rfl, rfl⟩
        ·
          have eg4 : (lb.length : Int) > 249 := of_decide_eq_true g4
          refine At.gn (some 27) (t := 26) rfl g4 rfl rfl ?_
          refine At.gn (some 28) (t := 26) rfl g4 rfl rfl ?_
          refine At.gn (some 29) (t := 26) rfl g4 rfl rfl ?_
          refine At.p (some 30) (P_pick_t rfl rfl g4 rfl) ?_
          refine At.nil ?_
          refine At.next ?_
          refine At.cond rfl (fun h30 => ?_) (fun h30 => by exfalso; first | omega | (simp at *; done) | (simp at *; omega) | (have h9 := hlb eg3; have h8 := of_decide_eq_false h30; omega) | (have h8 := of_decide_eq_false h31; omega))
          refine At.seq ?_
          refine At.region ?_
          refine At.p (some 8) (P_assign rfl rfl) ?_
          refine At.p (some 9) (P_assign rfl rfl) ?_
          refine At.nil ?_
          refine At.next ?_
          refine At.ret ?_
          refine At.thn_r ?_
          refine At.empty 990 0 5 ?_
          refine At.give (.inl rfl) [990] (rows' := [_]) (vs := [_, _]) rfl ⟨rfl, rfl, trivial⟩ rfl (by simp) (by simp) ⟨none, 0, 0, (fun h => absurd h (Nat.lt_irrefl 0)), (by first | exact Nat.le_refl _ | simp), rfl, rfl⟩
      ·
        have eg3 : lb = [] := of_decide_eq_true g3
        refine At.gn (some 22) (t := 21) rfl g3 rfl rfl ?_
        refine At.gn (some 23) (t := 21) rfl g3 rfl rfl ?_
        refine At.gn (some 24) (t := 21) rfl g3 rfl rfl ?_
        refine At.p (some 25) (P_pick_t rfl rfl g3 rfl) ?_
        refine At.p (some 26) (P_move rfl rfl) ?_
        refine At.gn (some 27) (t := 26) rfl rfl rfl rfl ?_
        refine At.gn (some 28) (t := 26) rfl rfl rfl rfl ?_
        refine At.gn (some 29) (t := 26) rfl rfl rfl rfl ?_
        refine At.p (some 30) (P_pick_t rfl rfl rfl rfl) ?_
        refine At.nil ?_
        refine At.next ?_
        refine At.cond rfl (fun h30 => ?_) (fun h30 => by exfalso; first | omega | (simp at *; done) | (simp at *; omega) | (have h9 := hlb eg3; have h8 := of_decide_eq_false h30; omega) | (have h8 := of_decide_eq_false h31; omega))
        refine At.seq ?_
        refine At.region ?_
        refine At.p (some 8) (P_assign rfl rfl) ?_
        refine At.p (some 9) (P_assign rfl rfl) ?_
        refine At.nil ?_
        refine At.next ?_
        refine At.ret ?_
        refine At.thn_r ?_
        refine At.empty 990 0 5 ?_
        refine At.give (.inl rfl) [990] (rows' := [_]) (vs := [_, _]) rfl ⟨rfl, rfl, trivial⟩ rfl (by simp) (by simp) ⟨none, 0, 0, (fun h => absurd h (Nat.lt_irrefl 0)), (by first | exact Nat.le_refl _ | simp), rfl, rfl⟩
    ·
      have eg2 : k > 8160 := of_decide_eq_true g2
      refine At.gn (some 18) (t := 17) rfl g2 rfl rfl ?_
      refine At.gn (some 19) (t := 17) rfl g2 rfl rfl ?_
      refine At.p (some 20) (P_pick_t rfl rfl g2 rfl) ?_
      refine At.p (some 21) (P_move rfl rfl) ?_
      refine At.gn (some 22) (t := 21) rfl rfl rfl rfl ?_
      refine At.gn (some 23) (t := 21) rfl rfl rfl rfl ?_
      refine At.gn (some 24) (t := 21) rfl rfl rfl rfl ?_
      refine At.p (some 25) (P_pick_t rfl rfl rfl rfl) ?_
      refine At.p (some 26) (P_move rfl rfl) ?_
      refine At.gn (some 27) (t := 26) rfl rfl rfl rfl ?_
      refine At.gn (some 28) (t := 26) rfl rfl rfl rfl ?_
      refine At.gn (some 29) (t := 26) rfl rfl rfl rfl ?_
      refine At.p (some 30) (P_pick_t rfl rfl rfl rfl) ?_
      refine At.nil ?_
      refine At.next ?_
      refine At.cond rfl (fun h30 => ?_) (fun h30 => by exfalso; first | omega | (simp at *; done) | (simp at *; omega) | (have h9 := hlb eg3; have h8 := of_decide_eq_false h30; omega) | (have h8 := of_decide_eq_false h31; omega))
      refine At.seq ?_
      refine At.region ?_
      refine At.p (some 8) (P_assign rfl rfl) ?_
      refine At.p (some 9) (P_assign rfl rfl) ?_
      refine At.nil ?_
      refine At.next ?_
      refine At.ret ?_
      refine At.thn_r ?_
      refine At.empty 990 0 5 ?_
      refine At.give (.inl rfl) [990] (rows' := [_]) (vs := [_, _]) rfl ⟨rfl, rfl, trivial⟩ rfl (by simp) (by simp) ⟨none, 0, 0, (fun h => absurd h (Nat.lt_irrefl 0)), (by first | exact Nat.le_refl _ | simp), rfl, rfl⟩
  ·
    have eg1 : k < 0 := of_decide_eq_true g1
    refine At.gn (some 14) (t := 13) rfl g1 rfl rfl ?_
    refine At.gn (some 15) (t := 13) rfl g1 rfl rfl ?_
    refine At.p (some 16) (P_pick_t rfl rfl g1 rfl) ?_
    refine At.p (some 17) (P_move rfl rfl) ?_
    refine At.gn (some 18) (t := 17) rfl rfl rfl rfl ?_
    refine At.gn (some 19) (t := 17) rfl rfl rfl rfl ?_
    refine At.p (some 20) (P_pick_t rfl rfl rfl rfl) ?_
    refine At.p (some 21) (P_move rfl rfl) ?_
    refine At.gn (some 22) (t := 21) rfl rfl rfl rfl ?_
    refine At.gn (some 23) (t := 21) rfl rfl rfl rfl ?_
    refine At.gn (some 24) (t := 21) rfl rfl rfl rfl ?_
    refine At.p (some 25) (P_pick_t rfl rfl rfl rfl) ?_
    refine At.p (some 26) (P_move rfl rfl) ?_
    refine At.gn (some 27) (t := 26) rfl rfl rfl rfl ?_
    refine At.gn (some 28) (t := 26) rfl rfl rfl rfl ?_
    refine At.gn (some 29) (t := 26) rfl rfl rfl rfl ?_
    refine At.p (some 30) (P_pick_t rfl rfl rfl rfl) ?_
    refine At.nil ?_
    refine At.next ?_
    refine At.cond rfl (fun h30 => ?_) (fun h30 => by exfalso; first | omega | (simp at *; done) | (simp at *; omega) | (have h9 := hlb eg3; have h8 := of_decide_eq_false h30; omega) | (have h8 := of_decide_eq_false h31; omega))
    refine At.seq ?_
    refine At.region ?_
    refine At.p (some 8) (P_assign rfl rfl) ?_
    refine At.p (some 9) (P_assign rfl rfl) ?_
    refine At.nil ?_
    refine At.next ?_
    refine At.ret ?_
    refine At.thn_r ?_
    refine At.empty 990 0 5 ?_
    refine At.give (.inl rfl) [990] (rows' := [_]) (vs := [_, _]) rfl ⟨rfl, rfl, trivial⟩ rfl (by simp) (by simp) ⟨none, 0, 0, (fun h => absurd h (Nat.lt_irrefl 0)), (by first | exact Nat.le_refl _ | simp), rfl, rfl⟩

set_option maxHeartbeats 2000000 in
theorem r_LabelX {key : List (BitVec 8)} {lb : List (BitVec 8)} {cx : List (BitVec 8)} {Acx : Option Addr} {ncx ccx bcx qcx : Nat} {k : Int} (hkey : key.length = 32) (hncx : cx.length = ncx) (hAcx : 0 < ncx → Acx = some ⟨bcx, qcx, none⟩) (hbad : ¬ (0 ≤ k ∧ k ≤ 8160 ∧ 0 < lb.length ∧ lb.length ≤ 249 ∧ ncx ≤ 255)) :
    Con Try.prog 25 [aggK key, strV lb, .slice Acx ncx ccx, iV k] [pRow bcx qcx cx] (fun v rs => ∃ (A' : Option Addr) (b' c' : Nat), (0 < c' → A' = some ⟨b', 0, none⟩) ∧ ([] : List (BitVec 8)).length ≤ c' ∧ v = .tuple #[.slice A' ([] : List (BitVec 8)).length c', .bool false] ∧ rs = [⟨true, b', 0, 5, (([] : List (BitVec 8))).map u8V, c' - (([] : List (BitVec 8))).length⟩]) := by
  refine Con.enter Try.func25 Try.ntmps25 (Nat.le_of_ble_eq_true rfl) rfl fun w => ?_
  refine At.seq ?_
  refine At.region ?_
  refine At.s (S_box (some 4) 4 (zs := (key).map u8V) rfl rfl rfl (fun b4 => ?_))
  refine At.p (some 8) (P_assign rfl rfl) ?_
  refine At.p (some 9) (P_assign rfl rfl) ?_
  refine At.nil ?_
  refine At.next ?_
  refine At.seq ?_
  refine At.seq ?_
  have hlb : ¬ lb = [] → 0 < lb.length := List.length_pos_iff.2
  refine At.region ?_
  refine At.p (some 11) (P_move rfl rfl) ?_
  refine At.p (some 12) (P_cmp rfl rfl rfl rfl rfl rfl) ?_
  refine At.p (some 13) (P_move rfl rfl) ?_
  refine At.gsplit (t := 13) (want := false) rfl (fun g1 => ?_) (fun g1 => ?_)
  ·
    have eg1 : ¬ k < 0 := of_decide_eq_false g1
    refine At.gy (t := 13) rfl g1 rfl rfl ?_
    refine At.p (some 14) (P_move rfl rfl) ?_
    refine At.gy (t := 13) rfl g1 rfl rfl ?_
    refine At.p (some 15) (P_cmp rfl rfl rfl rfl rfl rfl) ?_
    refine At.p (some 16) (P_pick_f rfl rfl g1 rfl) ?_
    refine At.p (some 17) (P_move rfl rfl) ?_
    refine At.gsplit (t := 17) (want := false) rfl (fun g2 => ?_) (fun g2 => ?_)
    ·
      have eg2 : ¬ k > 8160 := of_decide_eq_false g2
      refine At.gy (t := 17) rfl g2 rfl rfl ?_
      refine At.p (some 18) (P_move rfl rfl) ?_
      refine At.gy (t := 17) rfl g2 rfl rfl ?_
      refine At.p (some 19) (P_len_strV rfl rfl Try.underlying9 rfl) ?_
      refine At.gy (t := 17) rfl g2 rfl rfl ?_
      refine At.p (some 20) (P_cmp rfl rfl rfl rfl rfl rfl) ?_
      refine At.p (some 21) (P_pick_f rfl rfl g2 rfl) ?_
      refine At.p (some 22) (P_move rfl rfl) ?_
      refine At.gsplit (t := 22) (want := false) rfl (fun g3 => ?_) (fun g3 => ?_)
      ·
        have eg3 : ¬ (lb.length : Int) < 1 := of_decide_eq_false g3
        refine At.gy (t := 22) rfl g3 rfl rfl ?_
        refine At.p (some 23) (P_move rfl rfl) ?_
        refine At.gy (t := 22) rfl g3 rfl rfl ?_
        refine At.p (some 24) (P_len_strV rfl rfl Try.underlying9 rfl) ?_
        refine At.gy (t := 22) rfl g3 rfl rfl ?_
        refine At.p (some 25) (P_cmp rfl rfl rfl rfl rfl rfl) ?_
        refine At.p (some 26) (P_pick_f rfl rfl g3 rfl) ?_
        refine At.p (some 27) (P_move rfl rfl) ?_
        refine At.gsplit (t := 27) (want := false) rfl (fun g4 => ?_) (fun g4 => ?_)
        ·
          have eg4 : ¬ (lb.length : Int) > 249 := of_decide_eq_false g4
          refine At.gy (t := 27) rfl g4 rfl rfl ?_
          refine At.p (some 28) (P_move rfl rfl) ?_
          refine At.gy (t := 27) rfl g4 rfl rfl ?_
          refine At.p (some 29) (P_len_sl rfl rfl ⟨_, Try.underlying22⟩ rfl) ?_
          refine At.gy (t := 27) rfl g4 rfl rfl ?_
          refine At.p (some 30) (P_cmp rfl rfl rfl rfl rfl rfl) ?_
          refine At.p (some 31) (P_pick_f rfl rfl g4 rfl) ?_
          refine At.nil ?_
          refine At.next ?_
          refine At.cond rfl (fun h31 => ?_) (fun h31 => by exfalso; first | omega | (simp at *; done) | (simp at *; omega) | (have h9 := hlb eg3; have h8 := of_decide_eq_false h30; omega) | (have h8 := of_decide_eq_false h31; omega))
          have e31 : (ncx : Int) > 255 := of_decide_eq_true h31
          refine At.seq ?_
          refine At.region ?_
          refine At.p (some 8) (P_assign rfl rfl) ?_
          refine At.p (some 9) (P_assign rfl rfl) ?_
          refine At.nil ?_
          refine At.next ?_
          refine At.ret ?_
          refine At.thn_r ?_
          refine At.empty 990 0 5 ?_
          refine At.give (.inl rfl) [990] (rows' := [_]) (vs := [_, _]) rfl ⟨rfl, rfl, trivial⟩ rfl (by simp) (by simp) ⟨none, 0, 0, (fun h => absurd h (Nat.lt_irrefl 0)), (by first | exact Nat.le_refl _ | simp), rfl, rfl⟩
        ·
          have eg4 : (lb.length : Int) > 249 := of_decide_eq_true g4
          refine At.gn (some 28) (t := 27) rfl g4 rfl rfl ?_
          refine At.gn (some 29) (t := 27) rfl g4 rfl rfl ?_
          refine At.gn (some 30) (t := 27) rfl g4 rfl rfl ?_
          refine At.p (some 31) (P_pick_t rfl rfl g4 rfl) ?_
          refine At.nil ?_
          refine At.next ?_
          refine At.cond rfl (fun h31 => ?_) (fun h31 => by exfalso; first | omega | (simp at *; done) | (simp at *; omega) | (have h9 := hlb eg3; have h8 := of_decide_eq_false h30; omega) | (have h8 := of_decide_eq_false h31; omega))
          refine At.seq ?_
          refine At.region ?_
          refine At.p (some 8) (P_assign rfl rfl) ?_
          refine At.p (some 9) (P_assign rfl rfl) ?_
          refine At.nil ?_
          refine At.next ?_
          refine At.ret ?_
          refine At.thn_r ?_
          refine At.empty 990 0 5 ?_
          refine At.give (.inl rfl) [990] (rows' := [_]) (vs := [_, _]) rfl ⟨rfl, rfl, trivial⟩ rfl (by simp) (by simp) ⟨none, 0, 0, (fun h => absurd h (Nat.lt_irrefl 0)), (by first | exact Nat.le_refl _ | simp), rfl, rfl⟩
      ·
        have eg3 : (lb.length : Int) < 1 := of_decide_eq_true g3
        refine At.gn (some 23) (t := 22) rfl g3 rfl rfl ?_
        refine At.gn (some 24) (t := 22) rfl g3 rfl rfl ?_
        refine At.gn (some 25) (t := 22) rfl g3 rfl rfl ?_
        refine At.p (some 26) (P_pick_t rfl rfl g3 rfl) ?_
        refine At.p (some 27) (P_move rfl rfl) ?_
        refine At.gn (some 28) (t := 27) rfl rfl rfl rfl ?_
        refine At.gn (some 29) (t := 27) rfl rfl rfl rfl ?_
        refine At.gn (some 30) (t := 27) rfl rfl rfl rfl ?_
        refine At.p (some 31) (P_pick_t rfl rfl rfl rfl) ?_
        refine At.nil ?_
        refine At.next ?_
        refine At.cond rfl (fun h31 => ?_) (fun h31 => by exfalso; first | omega | (simp at *; done) | (simp at *; omega) | (have h9 := hlb eg3; have h8 := of_decide_eq_false h30; omega) | (have h8 := of_decide_eq_false h31; omega))
        refine At.seq ?_
        refine At.region ?_
        refine At.p (some 8) (P_assign rfl rfl) ?_
        refine At.p (some 9) (P_assign rfl rfl) ?_
        refine At.nil ?_
        refine At.next ?_
        refine At.ret ?_
        refine At.thn_r ?_
        refine At.empty 990 0 5 ?_
        refine At.give (.inl rfl) [990] (rows' := [_]) (vs := [_, _]) rfl ⟨rfl, rfl, trivial⟩ rfl (by simp) (by simp) ⟨none, 0, 0, (fun h => absurd h (Nat.lt_irrefl 0)), (by first | exact Nat.le_refl _ | simp), rfl, rfl⟩
    ·
      have eg2 : k > 8160 := of_decide_eq_true g2
      refine At.gn (some 18) (t := 17) rfl g2 rfl rfl ?_
      refine At.gn (some 19) (t := 17) rfl g2 rfl rfl ?_
      refine At.gn (some 20) (t := 17) rfl g2 rfl rfl ?_
      refine At.p (some 21) (P_pick_t rfl rfl g2 rfl) ?_
      refine At.p (some 22) (P_move rfl rfl) ?_
      refine At.gn (some 23) (t := 22) rfl rfl rfl rfl ?_
      refine At.gn (some 24) (t := 22) rfl rfl rfl rfl ?_
      refine At.gn (some 25) (t := 22) rfl rfl rfl rfl ?_
      refine At.p (some 26) (P_pick_t rfl rfl rfl rfl) ?_
      refine At.p (some 27) (P_move rfl rfl) ?_
      refine At.gn (some 28) (t := 27) rfl rfl rfl rfl ?_
      refine At.gn (some 29) (t := 27) rfl rfl rfl rfl ?_
      refine At.gn (some 30) (t := 27) rfl rfl rfl rfl ?_
      refine At.p (some 31) (P_pick_t rfl rfl rfl rfl) ?_
      refine At.nil ?_
      refine At.next ?_
      refine At.cond rfl (fun h31 => ?_) (fun h31 => by exfalso; first | omega | (simp at *; done) | (simp at *; omega) | (have h9 := hlb eg3; have h8 := of_decide_eq_false h30; omega) | (have h8 := of_decide_eq_false h31; omega))
      refine At.seq ?_
      refine At.region ?_
      refine At.p (some 8) (P_assign rfl rfl) ?_
      refine At.p (some 9) (P_assign rfl rfl) ?_
      refine At.nil ?_
      refine At.next ?_
      refine At.ret ?_
      refine At.thn_r ?_
      refine At.empty 990 0 5 ?_
      refine At.give (.inl rfl) [990] (rows' := [_]) (vs := [_, _]) rfl ⟨rfl, rfl, trivial⟩ rfl (by simp) (by simp) ⟨none, 0, 0, (fun h => absurd h (Nat.lt_irrefl 0)), (by first | exact Nat.le_refl _ | simp), rfl, rfl⟩
  ·
    have eg1 : k < 0 := of_decide_eq_true g1
    refine At.gn (some 14) (t := 13) rfl g1 rfl rfl ?_
    refine At.gn (some 15) (t := 13) rfl g1 rfl rfl ?_
    refine At.p (some 16) (P_pick_t rfl rfl g1 rfl) ?_
    refine At.p (some 17) (P_move rfl rfl) ?_
    refine At.gn (some 18) (t := 17) rfl rfl rfl rfl ?_
    refine At.gn (some 19) (t := 17) rfl rfl rfl rfl ?_
    refine At.gn (some 20) (t := 17) rfl rfl rfl rfl ?_
    refine At.p (some 21) (P_pick_t rfl rfl rfl rfl) ?_
    refine At.p (some 22) (P_move rfl rfl) ?_
    refine At.gn (some 23) (t := 22) rfl rfl rfl rfl ?_
    refine At.gn (some 24) (t := 22) rfl rfl rfl rfl ?_
    refine At.gn (some 25) (t := 22) rfl rfl rfl rfl ?_
    refine At.p (some 26) (P_pick_t rfl rfl rfl rfl) ?_
    refine At.p (some 27) (P_move rfl rfl) ?_
    refine At.gn (some 28) (t := 27) rfl rfl rfl rfl ?_
    refine At.gn (some 29) (t := 27) rfl rfl rfl rfl ?_
    refine At.gn (some 30) (t := 27) rfl rfl rfl rfl ?_
    refine At.p (some 31) (P_pick_t rfl rfl rfl rfl) ?_
    refine At.nil ?_
    refine At.next ?_
    refine At.cond rfl (fun h31 => ?_) (fun h31 => by exfalso; first | omega | (simp at *; done) | (simp at *; omega) | (have h9 := hlb eg3; have h8 := of_decide_eq_false h30; omega) | (have h8 := of_decide_eq_false h31; omega))
    refine At.seq ?_
    refine At.region ?_
    refine At.p (some 8) (P_assign rfl rfl) ?_
    refine At.p (some 9) (P_assign rfl rfl) ?_
    refine At.nil ?_
    refine At.next ?_
    refine At.ret ?_
    refine At.thn_r ?_
    refine At.empty 990 0 5 ?_
    refine At.give (.inl rfl) [990] (rows' := [_]) (vs := [_, _]) rfl ⟨rfl, rfl, trivial⟩ rfl (by simp) (by simp) ⟨none, 0, 0, (fun h => absurd h (Nat.lt_irrefl 0)), (by first | exact Nat.le_refl _ | simp), rfl, rfl⟩

end Go.Proofs.Ytdkeadfhejkidaa
