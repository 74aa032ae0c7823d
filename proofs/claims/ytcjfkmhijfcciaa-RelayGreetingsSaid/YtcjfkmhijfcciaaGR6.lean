import Derived.Test.YtcjfkmhijfcciaaGR5
namespace Go.Proofs.Ytcjfkmhijfcciaa
set_option maxRecDepth 20000
set_option linter.unusedVariables false
set_option linter.unusedSimpArgs false
open Go.SE Go.RowKit
attribute [local irreducible] sumS
/-- The reader, of bytes that begin with a number, with so many bytes, with a vector. -/
theorem k_UintN {br bl cr q w m : Nat} {rest : List (BitVec 8)} {Ar : Option Addr} (hm : beI (beN w m) 0 = m) (h1 : 1 ≤ w) (h4 : w ≤ 4) (hAr : 0 < (beN w m ++ rest).length → Ar = some ⟨bl, q, none⟩) (hcr : (beN w m ++ rest).length ≤ cr) :
  Con Try.prog 39 [ptr br 0, iV (w : Int)] [⟨true, br, 0, 83, [.slice Ar (beN w m ++ rest).length cr, iV 0], 0⟩, pRow bl q (beN w m ++ rest)] (fun v rs => ∃ A2 c2, (0 < rest.length → A2 = some ⟨bl, q + w, none⟩) ∧ rest.length ≤ c2 ∧ v = iV (m : Int) ∧ rs = [⟨true, br, 0, 83, [.slice A2 rest.length c2, iV 0], 0⟩]) := by
 have h := k_Uint (br := br) (n := w) hAr hcr (by simp) h1 h4
 rw [List.take_left' (beN_len w m), List.drop_left' (beN_len w m), hm] at h
 exact h
theorem k_BytesA {br bl cr q n : Nat} {a rest : List (BitVec 8)} {Ar : Option Addr} (ha : a.length = n) (hl : (a ++ rest).length ≤ 1000000) (hAr : 0 < (a ++ rest).length → Ar = some ⟨bl, q, none⟩) (hcr : (a ++ rest).length ≤ cr) :
  Con Try.prog 43 [ptr br 0, iV (n : Int)] [⟨true, br, 0, 83, [.slice Ar (a ++ rest).length cr, iV 0], 0⟩, pRow bl q (a ++ rest)] (fun v rs => ∃ A2 c2 A' b' c', (0 < rest.length → A2 = some ⟨bl, q + n, none⟩) ∧ rest.length ≤ c2 ∧ (0 < c' → A' = some ⟨b', 0, none⟩) ∧ a.length ≤ c' ∧ v = .slice A' a.length c' ∧ rs = [⟨true, br, 0, 83, [.slice A2 rest.length c2, iV 0], 0⟩, ⟨true, b', 0, 5, a.map u8V, c' - a.length⟩]) := by
 have h := k_Bytes (br := br) (n := n) hAr hcr (by simp; omega) hl
 rw [List.take_left' ha, List.drop_left' ha] at h
 exact h
theorem k_VecA {br bl cr q w m lo hi : Nat} {x rest : List (BitVec 8)} {Ar : Option Addr} (hm : beI (beN w m) 0 = m) (h1 : 1 ≤ w) (h4 : w ≤ 4) (hx : x.length = m) (hlo : lo ≤ m) (hhi : m ≤ hi) (hl : (beN w m ++ (x ++ rest)).length ≤ 1000000) (hAr : 0 < (beN w m ++ (x ++ rest)).length → Ar = some ⟨bl, q, none⟩) (hcr : (beN w m ++ (x ++ rest)).length ≤ cr) :
  Con Try.prog 10 [ptr br 0, iV (w : Int), iV (lo : Int), iV (hi : Int)] [⟨true, br, 0, 83, [.slice Ar (beN w m ++ (x ++ rest)).length cr, iV 0], 0⟩, pRow bl q (beN w m ++ (x ++ rest))] (fun v rs => ∃ A2 c2 A' b' c', (0 < rest.length → A2 = some ⟨bl, q + w + m, none⟩) ∧ rest.length ≤ c2 ∧ (0 < c' → A' = some ⟨b', 0, none⟩) ∧ x.length ≤ c' ∧ v = .slice A' x.length c' ∧ rs = [⟨true, br, 0, 83, [.slice A2 rest.length c2, iV 0], 0⟩, ⟨true, b', 0, 5, x.map u8V, c' - x.length⟩]) := by
 have h := k_VecY (br := br) (n := w) (m := m) (lo := lo) (hi := hi) hAr hcr (by simp) h1 h4 (by rw [List.take_left' (beN_len w m), hm]) (by rw [List.drop_left' (beN_len w m)]; simp; omega) hlo hhi hl
 rw [List.drop_left' (beN_len w m), List.take_left' hx, List.drop_left' hx] at h
 exact h
theorem k_VecB {br bl cr q w m lo hi : Nat} {x : List (BitVec 8)} {Ar : Option Addr} (hm : beI (beN w m) 0 = m) (h1 : 1 ≤ w) (h4 : w ≤ 4) (hx : x.length < m) (hl : (beN w m ++ x).length ≤ 1000000) (hAr : 0 < (beN w m ++ x).length → Ar = some ⟨bl, q, none⟩) (hcr : (beN w m ++ x).length ≤ cr) :
  Con Try.prog 10 [ptr br 0, iV (w : Int), iV (lo : Int), iV (hi : Int)] [⟨true, br, 0, 83, [.slice Ar (beN w m ++ x).length cr, iV 0], 0⟩, pRow bl q (beN w m ++ x)] (fun v rs => ∃ A2 c2 A' b' c', (0 < x.length → A2 = some ⟨bl, q + w, none⟩) ∧ x.length ≤ c2 ∧ (0 < c' → A' = some ⟨b', 0, none⟩) ∧ v = .slice A' ([] : List (BitVec 8)).length c' ∧ rs = [⟨true, br, 0, 83, [.slice A2 x.length c2, iV 2], 0⟩, ⟨true, b', 0, 5, ([] : List (BitVec 8)).map u8V, c' - ([] : List (BitVec 8)).length⟩]) := by
 have h := k_VecS (br := br) (n := w) (m := m) (lo := lo) (hi := hi) hAr hcr (by simp) h1 h4 (by rw [List.take_left' (beN_len w m), hm]) (by rw [List.drop_left' (beN_len w m)]; omega) hl
 rw [List.drop_left' (beN_len w m)] at h
 exact h

set_option maxHeartbeats 2000000 in
theorem k_Wrong {br : Nat} {sv : Value}  :
  Con Try.prog 90 [ptr br 0] [⟨false, br, 0, 83, [sv, iV 0], 0⟩] (fun v rs => v = .bool false ∧ rs = []) := by
 refine Con.enter Try.func90 Try.ntmps90 (Nat.le_of_ble_eq_true rfl) rfl fun w => ?_
 refine At.seq ?_
 refine At.region ?_
 refine At.p (some 2) (P_assign rfl rfl) ?_
 refine At.nil ?_
 refine At.next ?_
 refine At.seq ?_
 refine At.region ?_
 refine At.p (some 3) (P_move rfl rfl) ?_
 refine At.p (some 4) (P_eql_ptr rfl rfl rfl Try.underlying38) ?_
 refine At.p (some 5) (P_move rfl rfl) ?_
 refine At.gy (t := 5) rfl rfl rfl rfl ?_
 refine At.p (some 6) (P_move rfl rfl) ?_
 refine At.gy (t := 5) rfl rfl rfl rfl ?_
 refine At.p (some 7) (P_nilCheck rfl rfl) ?_
 refine At.gy (t := 5) rfl rfl rfl rfl ?_
 refine At.p (some 8) (P_fieldAddr0 (off := 1) rfl Try.underlying83 rfl sz31 rfl rfl) ?_
 refine At.gy (t := 5) rfl rfl rfl rfl ?_
 refine At.q (some 9) (Q_loadO (k := 0) rfl rfl Try.underlying31 rfl rfl rfl) ?_
 refine At.gy (t := 5) rfl rfl rfl rfl ?_
 refine At.p (some 10) (P_cmp rfl rfl rfl rfl rfl rfl) ?_
 refine At.p (some 11) (P_pick_f rfl rfl rfl rfl) ?_
 refine At.p (some 2) (P_assign rfl rfl) ?_
 refine At.nil ?_
 refine At.next ?_
 refine At.ret ?_
 refine At.give (.inl rfl) [] (rows' := []) (vs := [_]) rfl ⟨rfl, trivial⟩ rfl (by simp) (by simp) ⟨rfl, rfl⟩

set_option maxHeartbeats 2000000 in
theorem k_counted {br : Nat} {n : Nat} {most : Nat} (h1 : 1 ≤ n) (h2 : n ≤ most) :
  Con Try.prog 91 [ptr br 0, iV (n : Int), iV (most : Int)] [] (fun v rs => v = .tuple #[] ∧ rs = []) := by
 refine Con.enter Try.func91 Try.ntmps91 (Nat.le_of_ble_eq_true rfl) rfl fun w => ?_
 refine At.seq ?_
 refine At.region ?_
 refine At.p (some 6) (P_move rfl rfl) ?_
 refine At.p (some 7) (P_cmp rfl rfl rfl rfl rfl rfl) ?_
 refine At.p (some 8) (P_move rfl rfl) ?_
 refine At.gy (t := 8) rfl (decide_eq_false (by omega)) rfl rfl ?_
 refine At.p (some 9) (P_move rfl rfl) ?_
 refine At.gy (t := 8) rfl (decide_eq_false (by omega)) rfl rfl ?_
 refine At.p (some 10) (P_move rfl rfl) ?_
 refine At.gy (t := 8) rfl (decide_eq_false (by omega)) rfl rfl ?_
 refine At.p (some 11) (P_cast (congrArg Value.bool (decide_eq_false (by omega))) (P_cmp rfl rfl rfl rfl rfl rfl)) ?_
 refine At.p (some 12) (P_pick_f rfl rfl (decide_eq_false (by omega)) rfl) ?_
 refine At.nil ?_
 refine At.next ?_
 refine At.cond rfl (fun h12 => by simp at h12) (fun h12 => ?_)
 refine At.skip ?_
 refine At.give (.inr rfl) [] (rows' := []) (vs := []) rfl trivial rfl (by simp) (by simp) ⟨rfl, rfl⟩


end Go.Proofs.Ytcjfkmhijfcciaa

