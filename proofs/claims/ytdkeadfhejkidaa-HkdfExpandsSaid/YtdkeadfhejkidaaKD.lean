import Derived.Test.YtdkeadfhejkidaaKC
namespace Go.Proofs.Ytdkeadfhejkidaa
set_option maxRecDepth 20000
set_option linter.unusedVariables false
set_option linter.unusedSimpArgs false
open Go.SE Go.RowKit
theorem l_ExpandsE (key info : List (BitVec 8)) (z : Int) (A : Option Addr) (ca bq q : Nat) (hkey : key.length = 32) (hz : z < 0 ∨ 8160 < z) (hA : 0 < info.length → A = some ⟨bq, q, none⟩) (hca : info.length ≤ ca) :
    Con Try.prog 9 [aggK key, .slice A info.length ca, iV z] [pRow bq q info] (fun v rs => v = .bool true ∧ rs = []) := by
  refine Con.enter Try.func9 Try.ntmps9 (Nat.le_of_ble_eq_true rfl) rfl fun w => ?_
  refine At.seq ?_
  have hk32 : key.length = 32 := hkey
  obtain ⟨ni, hni⟩ : ∃ n, n = min info.length 60 := ⟨_, rfl⟩
  have hi2 : (info.take ni).length = ni := by simp; omega
  refine At.region ?_
  refine At.s (S_box (some 3) 3 (zs := key.map u8V) rfl rfl rfl (fun b3 => ?_))
  refine At.p (some 6) (P_assign rfl rfl) ?_
  refine At.nil ?_
  refine At.next ?_
  refine At.seq ?_
  refine At.region ?_
  refine At.p (some 14) (P_move rfl rfl) ?_
  refine At.p (some 15) (P_move rfl rfl) ?_
  refine At.p (some 16) (P_len_sl rfl rfl ⟨_, Try.underlying22⟩ rfl) ?_
  refine At.p (some 17) (P_min2 rfl rfl rfl rfl) ?_
  refine At.p (some 18) (P_slice_sl (h := ni) rfl Try.underlying22 sz5 rfl rfl ⟨_, _, rfl, by omega⟩ rfl (by omega) (by omega) (by omega)) ?_
  refine At.p (some 1) (P_assign rfl rfl) ?_
  refine At.nil ?_
  refine At.next ?_
  refine At.seq ?_
  refine At.region ?_
  refine At.p (some 19) (P_move rfl rfl) ?_
  refine At.p (some 7) (P_assign rfl rfl) ?_
  refine At.nil ?_
  refine At.next ?_
  refine At.seq ?_
  refine At.seq ?_
  refine At.region ?_
  refine At.p (some 20) (P_move rfl rfl) ?_
  refine At.p (some 21) (P_cmp rfl rfl rfl rfl rfl rfl) ?_
  refine At.p (some 22) (P_move rfl rfl) ?_
  refine At.gsplit (t := 22) (want := true) rfl (fun g1 => ?_) (fun g1 => ?_)
  ·
    refine At.gy (t := 22) rfl g1 rfl rfl ?_
    refine At.p (some 23) (P_move rfl rfl) ?_
    refine At.gy (t := 22) rfl g1 rfl rfl ?_
    refine At.p (some 24) (P_cmp rfl rfl rfl rfl rfl rfl) ?_
    refine At.p (some 25) (P_pick_t rfl rfl g1 rfl) ?_
    refine At.nil ?_
    refine At.next ?_
    refine At.cond rfl (fun h25 => by first | (simp at h25; done) | (simp at h25; omega) | (simp_all; omega)) (fun h25 => ?_)
    refine At.skip ?_
    refine At.next ?_
    refine At.seq ?_
    refine At.region ?_
    refine At.q (some 29) (Q_loadA (k := 3) rfl rfl Try.underlying25 rfl sz25 (by first | omega | (simp <;> omega)) rfl) ?_
    refine At.p (some 30) (P_move rfl rfl) ?_
    refine At.p (some 31) (P_move rfl rfl) ?_
    refine At.s (S_callV (some 32) [] [] (vs := [_, _, _]) rfl en20 rfl V0 (by simp) (c_ExpandE key z _ ni _ hkey hz) (by rintro _ _ ⟨rfl, rfl⟩; rfl) ?_)
    rintro _ _ ⟨rfl, rfl⟩
    refine At.p (some 28) (P_move rfl rfl) ?_
    refine At.p (some 33) (P_extract rfl rfl rfl) ?_
    refine At.p (some 34) (P_extract rfl rfl rfl) ?_
    refine At.p (some 8) (P_assign rfl rfl) ?_
    refine At.p (some 9) (P_assign rfl rfl) ?_
    refine At.nil ?_
    refine At.next ?_
    refine At.seq ?_
    refine At.region ?_
    refine At.q (some 36) (Q_loadA (k := 3) rfl rfl Try.underlying25 rfl sz25 (by first | omega | (simp <;> omega)) rfl) ?_
    refine At.p (some 37) (P_move rfl rfl) ?_
    refine At.p (some 38) (P_move rfl rfl) ?_
    refine At.s (S_callV (some 39) [] [] (vs := [_, _, _]) rfl en21 rfl V0 (by simp) (r_ExpandE key z _ ni _ hkey hz) (by rintro _ _ ⟨rfl, rfl⟩; rfl) ?_)
    rintro _ _ ⟨rfl, rfl⟩
    refine At.p (some 35) (P_move rfl rfl) ?_
    refine At.p (some 40) (P_extract rfl rfl rfl) ?_
    refine At.p (some 41) (P_extract rfl rfl rfl) ?_
    refine At.p (some 10) (P_assign rfl rfl) ?_
    refine At.p (some 11) (P_assign rfl rfl) ?_
    refine At.nil ?_
    refine At.next ?_
    refine At.seq ?_
    refine At.seq ?_
    refine At.region ?_
    refine At.s (S_callV (some 42) [] [] (vs := []) rfl en22 rfl V0 (by simp) (c_keys) (by rintro _ _ ⟨rfl, rfl⟩; rfl) ?_)
    rintro _ _ ⟨rfl, rfl⟩
    refine At.p (some 43) (P_not rfl rfl) ?_
    refine At.p (some 44) (P_move rfl rfl) ?_
    refine At.gy (t := 44) rfl rfl rfl rfl ?_
    refine At.p (some 45) (P_move rfl rfl) ?_
    refine At.gy (t := 44) rfl rfl rfl rfl ?_
    refine At.p (some 46) (P_cmp rfl rfl rfl rfl rfl rfl) ?_
    refine At.gy (t := 44) rfl rfl rfl rfl ?_
    refine At.p (some 47) (P_move rfl rfl) ?_
    refine At.gy (t := 44) rfl rfl rfl rfl ?_
    refine At.p (some 48) (P_neq_bool rfl Try.underlying4 rfl rfl) ?_
    refine At.p (some 49) (P_pick_f rfl rfl rfl rfl) ?_
    refine At.p (some 50) (P_move rfl rfl) ?_
    refine At.gy (t := 50) rfl (by simp) rfl rfl ?_
    refine At.p (some 51) (P_move rfl rfl) ?_
    refine At.gy (t := 50) rfl (by simp) rfl rfl ?_
    refine At.p (some 52) (P_cmp rfl rfl rfl rfl rfl rfl) ?_
    refine At.gy (t := 50) rfl (by simp) rfl rfl ?_
    refine At.p (some 53) (P_move rfl rfl) ?_
    refine At.gy (t := 53) rfl (by simp) rfl rfl ?_
    refine At.p (some 54) (P_move rfl rfl) ?_
    refine At.gy (t := 53) rfl (by simp) rfl rfl ?_
    refine At.p (some 55) (P_cmp rfl rfl rfl rfl rfl rfl) ?_
    refine At.gy (t := 50) rfl (by simp) rfl rfl ?_
    refine At.p (some 56) (P_pick_t rfl rfl (by simp) rfl) ?_
    refine At.p (some 57) (P_pick_f rfl rfl (by simp) rfl) ?_
    refine At.p (some 58) (P_move rfl rfl) ?_
    refine At.gy (t := 58) rfl (by simp) rfl rfl ?_
    refine At.p (some 59) (P_move rfl rfl) ?_
    refine At.gy (t := 58) rfl (by simp) rfl rfl ?_
    refine At.q (some 60) (Q_strN (b := 0) (q := 0) (l := []) (n := 0) (k := 98) (j := 0) (r := pRow 0 0 []) rfl rfl Try.underlying22 Try.underlying5 Try.underlying9 rfl (fun h => absurd h (by decide)) (fun h => absurd h (by decide)) rfl) ?_
    refine At.gy (t := 58) rfl (by simp) rfl rfl ?_
    refine At.p (some 61) (P_move rfl rfl) ?_
    refine At.gy (t := 58) rfl (by simp) rfl rfl ?_
    refine At.q (some 62) (Q_strN (b := 0) (q := 0) (l := []) (n := 0) (k := 98) (j := 0) (r := pRow 0 0 []) rfl rfl Try.underlying22 Try.underlying5 Try.underlying9 rfl (fun h => absurd h (by decide)) (fun h => absurd h (by decide)) rfl) ?_
    refine At.gy (t := 58) rfl (by simp) rfl rfl ?_
    refine At.p (some 63) (P_neq_str rfl rfl rfl) ?_
    refine At.p (some 64) (P_pick_f rfl rfl (by simp) rfl) ?_
    refine At.nil ?_
    refine At.next ?_
    refine At.cond rfl (fun h64 => by simp at h64) (fun h64 => ?_)
    refine At.skip ?_
    refine At.next ?_
    refine At.seq ?_
    refine At.seq ?_
    refine At.region ?_
    refine At.p (some 65) (P_move rfl rfl) ?_
    refine At.p (some 66) (P_cmp rfl rfl rfl rfl rfl rfl) ?_
    refine At.nil ?_
    refine At.next ?_
    refine At.cond rfl (fun h66 => ?_) (fun h66 => by simp at h66)
    refine At.seq ?_
    refine At.region ?_
    refine At.p (some 6) (P_assign rfl rfl) ?_
    refine At.nil ?_
    refine At.next ?_
    refine At.ret ?_
    refine At.thn_r ?_
    refine At.give (.inl rfl) [] (rows' := []) (vs := [_]) rfl ⟨rfl, trivial⟩ rfl (by simp) (by simp) ⟨rfl, rfl⟩
  ·
    refine At.gn (some 23) (t := 22) rfl g1 rfl rfl ?_
    refine At.gn (some 24) (t := 22) rfl g1 rfl rfl ?_
    refine At.p (some 25) (P_pick_f rfl rfl g1 rfl) ?_
    refine At.nil ?_
    refine At.next ?_
    refine At.cond rfl (fun h25 => by first | (simp at h25; done) | (simp at h25; omega) | (simp_all; omega)) (fun h25 => ?_)
    refine At.skip ?_
    refine At.next ?_
    refine At.seq ?_
    refine At.region ?_
    refine At.q (some 29) (Q_loadA (k := 3) rfl rfl Try.underlying25 rfl sz25 (by first | omega | (simp <;> omega)) rfl) ?_
    refine At.p (some 30) (P_move rfl rfl) ?_
    refine At.p (some 31) (P_move rfl rfl) ?_
    refine At.s (S_callV (some 32) [] [] (vs := [_, _, _]) rfl en20 rfl V0 (by simp) (c_ExpandE key z _ ni _ hkey hz) (by rintro _ _ ⟨rfl, rfl⟩; rfl) ?_)
    rintro _ _ ⟨rfl, rfl⟩
    refine At.p (some 28) (P_move rfl rfl) ?_
    refine At.p (some 33) (P_extract rfl rfl rfl) ?_
    refine At.p (some 34) (P_extract rfl rfl rfl) ?_
    refine At.p (some 8) (P_assign rfl rfl) ?_
    refine At.p (some 9) (P_assign rfl rfl) ?_
    refine At.nil ?_
    refine At.next ?_
    refine At.seq ?_
    refine At.region ?_
    refine At.q (some 36) (Q_loadA (k := 3) rfl rfl Try.underlying25 rfl sz25 (by first | omega | (simp <;> omega)) rfl) ?_
    refine At.p (some 37) (P_move rfl rfl) ?_
    refine At.p (some 38) (P_move rfl rfl) ?_
    refine At.s (S_callV (some 39) [] [] (vs := [_, _, _]) rfl en21 rfl V0 (by simp) (r_ExpandE key z _ ni _ hkey hz) (by rintro _ _ ⟨rfl, rfl⟩; rfl) ?_)
    rintro _ _ ⟨rfl, rfl⟩
    refine At.p (some 35) (P_move rfl rfl) ?_
    refine At.p (some 40) (P_extract rfl rfl rfl) ?_
    refine At.p (some 41) (P_extract rfl rfl rfl) ?_
    refine At.p (some 10) (P_assign rfl rfl) ?_
    refine At.p (some 11) (P_assign rfl rfl) ?_
    refine At.nil ?_
    refine At.next ?_
    refine At.seq ?_
    refine At.seq ?_
    refine At.region ?_
    refine At.s (S_callV (some 42) [] [] (vs := []) rfl en22 rfl V0 (by simp) (c_keys) (by rintro _ _ ⟨rfl, rfl⟩; rfl) ?_)
    rintro _ _ ⟨rfl, rfl⟩
    refine At.p (some 43) (P_not rfl rfl) ?_
    refine At.p (some 44) (P_move rfl rfl) ?_
    refine At.gy (t := 44) rfl rfl rfl rfl ?_
    refine At.p (some 45) (P_move rfl rfl) ?_
    refine At.gy (t := 44) rfl rfl rfl rfl ?_
    refine At.p (some 46) (P_cmp rfl rfl rfl rfl rfl rfl) ?_
    refine At.gy (t := 44) rfl rfl rfl rfl ?_
    refine At.p (some 47) (P_move rfl rfl) ?_
    refine At.gy (t := 44) rfl rfl rfl rfl ?_
    refine At.p (some 48) (P_neq_bool rfl Try.underlying4 rfl rfl) ?_
    refine At.p (some 49) (P_pick_f rfl rfl rfl rfl) ?_
    refine At.p (some 50) (P_move rfl rfl) ?_
    refine At.gy (t := 50) rfl (by simp) rfl rfl ?_
    refine At.p (some 51) (P_move rfl rfl) ?_
    refine At.gy (t := 50) rfl (by simp) rfl rfl ?_
    refine At.p (some 52) (P_cmp rfl rfl rfl rfl rfl rfl) ?_
    refine At.gy (t := 50) rfl (by simp) rfl rfl ?_
    refine At.p (some 53) (P_move rfl rfl) ?_
    refine At.gy (t := 53) rfl (by simp) rfl rfl ?_
    refine At.p (some 54) (P_move rfl rfl) ?_
    refine At.gy (t := 53) rfl (by simp) rfl rfl ?_
    refine At.p (some 55) (P_cmp rfl rfl rfl rfl rfl rfl) ?_
    refine At.gy (t := 50) rfl (by simp) rfl rfl ?_
    refine At.p (some 56) (P_pick_t rfl rfl (by simp) rfl) ?_
    refine At.p (some 57) (P_pick_f rfl rfl (by simp) rfl) ?_
    refine At.p (some 58) (P_move rfl rfl) ?_
    refine At.gy (t := 58) rfl (by simp) rfl rfl ?_
    refine At.p (some 59) (P_move rfl rfl) ?_
    refine At.gy (t := 58) rfl (by simp) rfl rfl ?_
    refine At.q (some 60) (Q_strN (b := 0) (q := 0) (l := []) (n := 0) (k := 98) (j := 0) (r := pRow 0 0 []) rfl rfl Try.underlying22 Try.underlying5 Try.underlying9 rfl (fun h => absurd h (by decide)) (fun h => absurd h (by decide)) rfl) ?_
    refine At.gy (t := 58) rfl (by simp) rfl rfl ?_
    refine At.p (some 61) (P_move rfl rfl) ?_
    refine At.gy (t := 58) rfl (by simp) rfl rfl ?_
    refine At.q (some 62) (Q_strN (b := 0) (q := 0) (l := []) (n := 0) (k := 98) (j := 0) (r := pRow 0 0 []) rfl rfl Try.underlying22 Try.underlying5 Try.underlying9 rfl (fun h => absurd h (by decide)) (fun h => absurd h (by decide)) rfl) ?_
    refine At.gy (t := 58) rfl (by simp) rfl rfl ?_
    refine At.p (some 63) (P_neq_str rfl rfl rfl) ?_
    refine At.p (some 64) (P_pick_f rfl rfl (by simp) rfl) ?_
    refine At.nil ?_
    refine At.next ?_
    refine At.cond rfl (fun h64 => by simp at h64) (fun h64 => ?_)
    refine At.skip ?_
    refine At.next ?_
    refine At.seq ?_
    refine At.seq ?_
    refine At.region ?_
    refine At.p (some 65) (P_move rfl rfl) ?_
    refine At.p (some 66) (P_cmp rfl rfl rfl rfl rfl rfl) ?_
    refine At.nil ?_
    refine At.next ?_
    refine At.cond rfl (fun h66 => ?_) (fun h66 => by simp at h66)
    refine At.seq ?_
    refine At.region ?_
    refine At.p (some 6) (P_assign rfl rfl) ?_
    refine At.nil ?_
    refine At.next ?_
    refine At.ret ?_
    refine At.thn_r ?_
    refine At.give (.inl rfl) [] (rows' := []) (vs := [_]) rfl ⟨rfl, trivial⟩ rfl (by simp) (by simp) ⟨rfl, rfl⟩

set_option maxHeartbeats 1000000 in
theorem l_ExpandsV (key info : List (BitVec 8)) (z : Nat) (A : Option Addr) (ca bq q : Nat) (hkey : key.length = 32) (hz : z ≤ 8160) (hA : 0 < info.length → A = some ⟨bq, q, none⟩) (hca : info.length ≤ ca) :
    Con Try.prog 9 [aggK key, .slice A info.length ca, iV (z : Int)] [pRow bq q info] (fun v rs => v = .bool true ∧ rs = []) := by
  refine Con.enter Try.func9 Try.ntmps9 (Nat.le_of_ble_eq_true rfl) rfl fun w => ?_
  refine At.seq ?_
  have hk32 : key.length = 32 := hkey
  obtain ⟨ni, hni⟩ : ∃ n, n = min info.length 60 := ⟨_, rfl⟩
  have hi2 : (info.take ni).length = ni := by simp; omega
  refine At.region ?_
  refine At.s (S_box (some 3) 3 (zs := key.map u8V) rfl rfl rfl (fun b3 => ?_))
  refine At.p (some 6) (P_assign rfl rfl) ?_
  refine At.nil ?_
  refine At.next ?_
  refine At.seq ?_
  refine At.region ?_
  refine At.p (some 14) (P_move rfl rfl) ?_
  refine At.p (some 15) (P_move rfl rfl) ?_
  refine At.p (some 16) (P_len_sl rfl rfl ⟨_, Try.underlying22⟩ rfl) ?_
  refine At.p (some 17) (P_min2 rfl rfl rfl rfl) ?_
  refine At.p (some 18) (P_slice_sl (h := ni) rfl Try.underlying22 sz5 rfl rfl ⟨_, _, rfl, by omega⟩ rfl (by omega) (by omega) (by omega)) ?_
  refine At.p (some 1) (P_assign rfl rfl) ?_
  refine At.nil ?_
  refine At.next ?_
  refine At.seq ?_
  refine At.region ?_
  refine At.p (some 19) (P_move rfl rfl) ?_
  refine At.p (some 7) (P_assign rfl rfl) ?_
  refine At.nil ?_
  refine At.next ?_
  refine At.seq ?_
  refine At.seq ?_
  refine At.region ?_
  refine At.p (some 20) (P_move rfl rfl) ?_
  refine At.p (some 21) (P_cmp rfl rfl rfl rfl rfl rfl) ?_
  refine At.p (some 22) (P_move rfl rfl) ?_
  refine At.gsplit (t := 22) (want := true) rfl (fun g1 => ?_) (fun g1 => ?_)
  ·
    refine At.gy (t := 22) rfl g1 rfl rfl ?_
    refine At.p (some 23) (P_move rfl rfl) ?_
    refine At.gy (t := 22) rfl g1 rfl rfl ?_
    refine At.p (some 24) (P_cmp rfl rfl rfl rfl rfl rfl) ?_
    refine At.p (some 25) (P_pick_t rfl rfl g1 rfl) ?_
    refine At.nil ?_
    refine At.next ?_
    refine At.cond rfl (fun h25 => ?_) (fun h25 => ?_)
    · -- cond 25 t
      have hzz : 300 < (z : Int) := by first | (simp at h25; omega) | (simp_all; done) | (simp_all; omega)
      obtain ⟨k, hk⟩ : ∃ k : Nat, k = z % 300 := ⟨_, rfl⟩
      have hzk : (z : Int) % 300 = (k : Int) := by omega
      refine At.region ?_
      refine At.p (some 26) (P_move rfl rfl) ?_
      refine At.p (some 27) (P_rem_i rfl rfl rfl (by omega) (by first | decide | omega)) ?_
      refine At.p (some 7) (P_assign rfl rfl) ?_
      refine At.nil ?_
      refine At.next ?_
      refine At.seq ?_
      rw [hzk]
      refine At.region ?_
      refine At.q (some 29) (Q_loadA (k := 3) rfl rfl Try.underlying25 rfl sz25 (by first | omega | (simp <;> omega)) rfl) ?_
      refine At.p (some 30) (P_move rfl rfl) ?_
      refine At.p (some 31) (P_move rfl rfl) ?_
      refine At.s (S_callV (some 32) [(0, _)] [8] (vs := [_, _, _]) rfl en20 rfl (VN (by simp) rfl (View.sub (j := 0) (m := ni) rfl rfl) V0) (by simp) (c_Expand (info := (info.take ni)) (ni := ni) k hi2 hkey (by omega) (fun h => cut_zero (hA (by omega))) (by omega)) (by rintro _ _ ⟨A8, b8, c8, r8, m8, g8a, g8b, rfl, rfl⟩; rfl) ?_)
      rintro _ _ ⟨A8, b8, c8, r8, m8, g8a, g8b, rfl, rfl⟩
      refine At.p (some 28) (P_move rfl rfl) ?_
      refine At.p (some 33) (P_extract rfl rfl rfl) ?_
      refine At.p (some 34) (P_extract rfl rfl rfl) ?_
      refine At.p (some 8) (P_assign rfl rfl) ?_
      refine At.p (some 9) (P_assign rfl rfl) ?_
      refine At.nil ?_
      refine At.next ?_
      refine At.seq ?_
      refine At.region ?_
      refine At.q (some 36) (Q_loadA (k := 3) rfl rfl Try.underlying25 rfl sz25 (by first | omega | (simp <;> omega)) rfl) ?_
      refine At.p (some 37) (P_move rfl rfl) ?_
      refine At.p (some 38) (P_move rfl rfl) ?_
      refine At.s (S_callV (some 39) [(0, _)] [10] (vs := [_, _, _]) rfl en21 rfl (VN (by simp) rfl (View.sub (j := 0) (m := ni) rfl rfl) V0) (by simp) (r_Expand (info := (info.take ni)) (ni := ni) k hi2 hkey (by omega) (fun h => cut_zero (hA (by omega))) (by omega)) (by rintro _ _ ⟨A10, b10, c10, r10, m10, g10a, g10b, rfl, rfl⟩; rfl) ?_)
      rintro _ _ ⟨A10, b10, c10, r10, m10, g10a, g10b, rfl, rfl⟩
      refine At.p (some 35) (P_move rfl rfl) ?_
      refine At.p (some 40) (P_extract rfl rfl rfl) ?_
      refine At.p (some 41) (P_extract rfl rfl rfl) ?_
      refine At.p (some 10) (P_assign rfl rfl) ?_
      refine At.p (some 11) (P_assign rfl rfl) ?_
      refine At.nil ?_
      refine At.next ?_
      refine At.seq ?_
      refine At.seq ?_
      refine At.region ?_
      refine At.s (S_callV (some 42) [] [] (vs := []) rfl en22 rfl V0 (by simp) (c_keys) (by rintro _ _ ⟨rfl, rfl⟩; rfl) ?_)
      rintro _ _ ⟨rfl, rfl⟩
      refine At.p (some 43) (P_not rfl rfl) ?_
      refine At.p (some 44) (P_move rfl rfl) ?_
      refine At.gy (t := 44) rfl rfl rfl rfl ?_
      refine At.p (some 45) (P_move rfl rfl) ?_
      refine At.gy (t := 44) rfl rfl rfl rfl ?_
      refine At.p (some 46) (P_cmp rfl rfl rfl rfl rfl rfl) ?_
      refine At.gy (t := 44) rfl rfl rfl rfl ?_
      refine At.p (some 47) (P_move rfl rfl) ?_
      refine At.gy (t := 44) rfl rfl rfl rfl ?_
      refine At.p (some 48) (P_neq_bool rfl Try.underlying4 rfl rfl) ?_
      refine At.p (some 49) (P_pick_f rfl rfl rfl rfl) ?_
      refine At.p (some 50) (P_move rfl rfl) ?_
      refine At.gy (t := 50) rfl (by simp) rfl rfl ?_
      refine At.p (some 51) (P_move rfl rfl) ?_
      refine At.gy (t := 50) rfl (by simp) rfl rfl ?_
      refine At.p (some 52) (P_cmp rfl rfl rfl rfl rfl rfl) ?_
      refine At.gy (t := 50) rfl (by simp) rfl rfl ?_
      refine At.p (some 53) (P_move rfl rfl) ?_
      refine At.gn (some 54) (t := 53) rfl (by simp) rfl rfl ?_
      refine At.gn (some 55) (t := 53) rfl (by simp) rfl rfl ?_
      refine At.gy (t := 50) rfl (by simp) rfl rfl ?_
      refine At.p (some 56) (P_pick_f rfl rfl (by simp) rfl) ?_
      refine At.p (some 57) (P_pick_f rfl rfl (by simp) rfl) ?_
      refine At.p (some 58) (P_move rfl rfl) ?_
      refine At.gy (t := 58) rfl rfl rfl rfl ?_
      refine At.p (some 59) (P_move rfl rfl) ?_
      refine At.gy (t := 58) rfl rfl rfl rfl ?_
      refine At.q (some 60) (Q_strN (l := (expS key (info.take ni) k)) (n := k) (k := 8) (j := 0) (expS_len _ _ _) rfl Try.underlying22 Try.underlying5 Try.underlying9 rfl (fun h => g8a h) (fun _ => ⟨rfl, rfl, rfl⟩) (by rw [List.drop_zero, List.map_append, List.take_append_of_le_length (by rw [List.length_map, expS_len]; exact Nat.le_refl _), List.take_of_length_le (by rw [List.length_map, expS_len]; exact Nat.le_refl _)])) ?_
      refine At.gy (t := 58) rfl rfl rfl rfl ?_
      refine At.p (some 61) (P_move rfl rfl) ?_
      refine At.gy (t := 58) rfl rfl rfl rfl ?_
      refine At.q (some 62) (Q_strN (l := (expS key (info.take ni) k)) (n := k) (k := 10) (j := 0) (expS_len _ _ _) rfl Try.underlying22 Try.underlying5 Try.underlying9 rfl (fun h => g10a h) (fun _ => ⟨rfl, rfl, rfl⟩) (by rw [List.drop_zero, List.map_append, List.take_append_of_le_length (by rw [List.length_map, expS_len]; exact Nat.le_refl _), List.take_of_length_le (by rw [List.length_map, expS_len]; exact Nat.le_refl _)])) ?_
      refine At.gy (t := 58) rfl rfl rfl rfl ?_
      refine At.p (some 63) (P_neq_str rfl rfl rfl) ?_
      refine At.p (some 64) (P_pick_f rfl rfl rfl rfl) ?_
      refine At.nil ?_
      refine At.next ?_
      refine At.cond rfl (fun h64 => by simp at h64) (fun h64 => ?_)
      refine At.skip ?_
      refine At.next ?_
      refine At.seq ?_
      refine At.seq ?_
      refine At.region ?_
      refine At.p (some 65) (P_move rfl rfl) ?_
      refine At.p (some 66) (P_cmp rfl rfl rfl rfl rfl rfl) ?_
      refine At.nil ?_
      refine At.next ?_
      refine At.cond rfl (fun h66 => by simp at h66) (fun h66 => ?_)
      refine At.skip ?_
      refine At.next ?_
      refine At.seq ?_
      refine At.region ?_
      refine At.q (some 68) (Q_loadA (k := 3) rfl rfl Try.underlying25 rfl sz25 (by first | omega | (simp <;> omega)) rfl) ?_
      refine At.p (some 69) (P_move rfl rfl) ?_
      refine At.p (some 70) (P_move rfl rfl) ?_
      refine At.p (some 71) (P_quo_i rfl rfl rfl (by omega) (by omega) (by first | decide | omega)) ?_
      refine At.s (S_callV (some 72) [(0, _)] [12] (vs := [_, _, _]) rfl en20 rfl (VN (by simp) rfl (View.sub (j := 0) (m := ni) rfl rfl) V0) (by simp) (c_Expand (info := (info.take ni)) (ni := ni) (k / 2) hi2 hkey (by omega) (fun h => cut_zero (hA (by omega))) (by omega)) (by rintro _ _ ⟨A12, b12, c12, r12, m12, g12a, g12b, rfl, rfl⟩; rfl) ?_)
      rintro _ _ ⟨A12, b12, c12, r12, m12, g12a, g12b, rfl, rfl⟩
      refine At.p (some 67) (P_move rfl rfl) ?_
      refine At.p (some 73) (P_extract rfl rfl rfl) ?_
      refine At.p (some 74) (P_extract rfl rfl rfl) ?_
      refine At.p (some 12) (P_assign rfl rfl) ?_
      refine At.p (some 13) (P_assign rfl rfl) ?_
      refine At.nil ?_
      refine At.next ?_
      refine At.seq ?_
      refine At.draws 10 [] [.q false [0, 1, 2, 3, 4, 5, 6, 7, 8, 9]] (by kernel_rfl) (by kernel_rfl) ?_
      refine At.wp (some 75) (P_move rfl rfl) ?_
      refine At.wp (some 76) (P_cmp rfl rfl rfl rfl rfl rfl) ?_
      refine At.wp (some 77) (P_move rfl rfl) ?_
      refine At.wgy (some 78) (t := 77) rfl rfl rfl rfl (P_move rfl rfl) ?_
      refine At.wgyq (some 79) (t := 77) rfl rfl rfl rfl (Q_strN (l := (expS key (info.take ni) (k / 2))) (n := k / 2) (k := 12) (j := 0) (expS_len _ _ _) rfl Try.underlying22 Try.underlying5 Try.underlying9 rfl (fun h => g12a h) (fun _ => ⟨rfl, rfl, rfl⟩) (by rw [List.drop_zero, List.map_append, List.take_append_of_le_length (by rw [List.length_map, expS_len]; exact Nat.le_refl _), List.take_of_length_le (by rw [List.length_map, expS_len]; exact Nat.le_refl _)])) ?_
      refine At.wgy (some 80) (t := 77) rfl rfl rfl rfl (P_move rfl rfl) ?_
      refine At.wgy (some 81) (t := 77) rfl rfl rfl rfl (P_move rfl rfl) ?_
      refine At.wgy (some 82) (t := 77) rfl rfl rfl rfl (P_quo_i rfl rfl rfl (by omega) (by omega) (by first | decide | omega)) ?_
      refine At.wgy (some 83) (t := 77) rfl rfl rfl rfl (P_slice_sl (h := k / 2) rfl Try.underlying22 sz5 rfl rfl ⟨_, _, rfl, by omega⟩ rfl (by omega) (by omega) (by omega)) ?_
      refine At.wgyq (some 84) (t := 77) rfl rfl rfl rfl (Q_strN (l := (expS key (info.take ni) (k / 2))) (n := k / 2) (k := 8) (j := 0) (expS_len _ _ _) rfl Try.underlying22 Try.underlying5 Try.underlying9 rfl (fun h => cut_zero (g8a (by omega))) (fun _ => ⟨rfl, rfl, rfl⟩) (by rw [List.drop_zero, List.map_append, List.take_append_of_le_length (by rw [List.length_map, expS_len]; omega), exp_take key _ (show k / 2 ≤ k by omega), List.map_take])) ?_
      refine At.wqn ?_
      refine At.wt rfl ?_
      refine At.gy (t := 77) rfl rfl rfl rfl ?_
      refine At.p (some 85) (P_eql_str rfl rfl rfl) ?_
      refine At.p (some 86) (P_pick_t rfl rfl rfl rfl) ?_
      refine At.p (some 6) (P_assign rfl rfl) ?_
      refine At.nil ?_
      refine At.next ?_
      refine At.ret ?_
      refine At.give (.inl rfl) [] (rows' := []) (vs := [_]) rfl ⟨rfl, trivial⟩ rfl (by simp) (by simp) ⟨congrArg Value.bool (by simp), rfl⟩
    · -- cond 25 f
      obtain ⟨k, hk⟩ : ∃ k : Nat, k = z := ⟨_, rfl⟩
      have hzk : (z : Int) = (k : Int) := by omega
      refine At.skip ?_
      refine At.next ?_
      refine At.seq ?_
      rw [hzk]
      refine At.region ?_
      refine At.q (some 29) (Q_loadA (k := 3) rfl rfl Try.underlying25 rfl sz25 (by first | omega | (simp <;> omega)) rfl) ?_
      refine At.p (some 30) (P_move rfl rfl) ?_
      refine At.p (some 31) (P_move rfl rfl) ?_
      refine At.s (S_callV (some 32) [(0, _)] [8] (vs := [_, _, _]) rfl en20 rfl (VN (by simp) rfl (View.sub (j := 0) (m := ni) rfl rfl) V0) (by simp) (c_Expand (info := (info.take ni)) (ni := ni) k hi2 hkey (by omega) (fun h => cut_zero (hA (by omega))) (by omega)) (by rintro _ _ ⟨A8, b8, c8, r8, m8, g8a, g8b, rfl, rfl⟩; rfl) ?_)
      rintro _ _ ⟨A8, b8, c8, r8, m8, g8a, g8b, rfl, rfl⟩
      refine At.p (some 28) (P_move rfl rfl) ?_
      refine At.p (some 33) (P_extract rfl rfl rfl) ?_
      refine At.p (some 34) (P_extract rfl rfl rfl) ?_
      refine At.p (some 8) (P_assign rfl rfl) ?_
      refine At.p (some 9) (P_assign rfl rfl) ?_
      refine At.nil ?_
      refine At.next ?_
      refine At.seq ?_
      refine At.region ?_
      refine At.q (some 36) (Q_loadA (k := 3) rfl rfl Try.underlying25 rfl sz25 (by first | omega | (simp <;> omega)) rfl) ?_
      refine At.p (some 37) (P_move rfl rfl) ?_
      refine At.p (some 38) (P_move rfl rfl) ?_
      refine At.s (S_callV (some 39) [(0, _)] [10] (vs := [_, _, _]) rfl en21 rfl (VN (by simp) rfl (View.sub (j := 0) (m := ni) rfl rfl) V0) (by simp) (r_Expand (info := (info.take ni)) (ni := ni) k hi2 hkey (by omega) (fun h => cut_zero (hA (by omega))) (by omega)) (by rintro _ _ ⟨A10, b10, c10, r10, m10, g10a, g10b, rfl, rfl⟩; rfl) ?_)
      rintro _ _ ⟨A10, b10, c10, r10, m10, g10a, g10b, rfl, rfl⟩
      refine At.p (some 35) (P_move rfl rfl) ?_
      refine At.p (some 40) (P_extract rfl rfl rfl) ?_
      refine At.p (some 41) (P_extract rfl rfl rfl) ?_
      refine At.p (some 10) (P_assign rfl rfl) ?_
      refine At.p (some 11) (P_assign rfl rfl) ?_
      refine At.nil ?_
      refine At.next ?_
      refine At.seq ?_
      refine At.seq ?_
      refine At.region ?_
      refine At.s (S_callV (some 42) [] [] (vs := []) rfl en22 rfl V0 (by simp) (c_keys) (by rintro _ _ ⟨rfl, rfl⟩; rfl) ?_)
      rintro _ _ ⟨rfl, rfl⟩
      refine At.p (some 43) (P_not rfl rfl) ?_
      refine At.p (some 44) (P_move rfl rfl) ?_
      refine At.gy (t := 44) rfl rfl rfl rfl ?_
      refine At.p (some 45) (P_move rfl rfl) ?_
      refine At.gy (t := 44) rfl rfl rfl rfl ?_
      refine At.p (some 46) (P_cmp rfl rfl rfl rfl rfl rfl) ?_
      refine At.gy (t := 44) rfl rfl rfl rfl ?_
      refine At.p (some 47) (P_move rfl rfl) ?_
      refine At.gy (t := 44) rfl rfl rfl rfl ?_
      refine At.p (some 48) (P_neq_bool rfl Try.underlying4 rfl rfl) ?_
      refine At.p (some 49) (P_pick_f rfl rfl rfl rfl) ?_
      refine At.p (some 50) (P_move rfl rfl) ?_
      refine At.gy (t := 50) rfl (by simp) rfl rfl ?_
      refine At.p (some 51) (P_move rfl rfl) ?_
      refine At.gy (t := 50) rfl (by simp) rfl rfl ?_
      refine At.p (some 52) (P_cmp rfl rfl rfl rfl rfl rfl) ?_
      refine At.gy (t := 50) rfl (by simp) rfl rfl ?_
      refine At.p (some 53) (P_move rfl rfl) ?_
      refine At.gn (some 54) (t := 53) rfl (by simp) rfl rfl ?_
      refine At.gn (some 55) (t := 53) rfl (by simp) rfl rfl ?_
      refine At.gy (t := 50) rfl (by simp) rfl rfl ?_
      refine At.p (some 56) (P_pick_f rfl rfl (by simp) rfl) ?_
      refine At.p (some 57) (P_pick_f rfl rfl (by simp) rfl) ?_
      refine At.p (some 58) (P_move rfl rfl) ?_
      refine At.gy (t := 58) rfl rfl rfl rfl ?_
      refine At.p (some 59) (P_move rfl rfl) ?_
      refine At.gy (t := 58) rfl rfl rfl rfl ?_
      refine At.q (some 60) (Q_strN (l := (expS key (info.take ni) k)) (n := k) (k := 8) (j := 0) (expS_len _ _ _) rfl Try.underlying22 Try.underlying5 Try.underlying9 rfl (fun h => g8a h) (fun _ => ⟨rfl, rfl, rfl⟩) (by rw [List.drop_zero, List.map_append, List.take_append_of_le_length (by rw [List.length_map, expS_len]; exact Nat.le_refl _), List.take_of_length_le (by rw [List.length_map, expS_len]; exact Nat.le_refl _)])) ?_
      refine At.gy (t := 58) rfl rfl rfl rfl ?_
      refine At.p (some 61) (P_move rfl rfl) ?_
      refine At.gy (t := 58) rfl rfl rfl rfl ?_
      refine At.q (some 62) (Q_strN (l := (expS key (info.take ni) k)) (n := k) (k := 10) (j := 0) (expS_len _ _ _) rfl Try.underlying22 Try.underlying5 Try.underlying9 rfl (fun h => g10a h) (fun _ => ⟨rfl, rfl, rfl⟩) (by rw [List.drop_zero, List.map_append, List.take_append_of_le_length (by rw [List.length_map, expS_len]; exact Nat.le_refl _), List.take_of_length_le (by rw [List.length_map, expS_len]; exact Nat.le_refl _)])) ?_
      refine At.gy (t := 58) rfl rfl rfl rfl ?_
      refine At.p (some 63) (P_neq_str rfl rfl rfl) ?_
      refine At.p (some 64) (P_pick_f rfl rfl rfl rfl) ?_
      refine At.nil ?_
      refine At.next ?_
      refine At.cond rfl (fun h64 => by simp at h64) (fun h64 => ?_)
      refine At.skip ?_
      refine At.next ?_
      refine At.seq ?_
      refine At.seq ?_
      refine At.region ?_
      refine At.p (some 65) (P_move rfl rfl) ?_
      refine At.p (some 66) (P_cmp rfl rfl rfl rfl rfl rfl) ?_
      refine At.nil ?_
      refine At.next ?_
      refine At.cond rfl (fun h66 => by simp at h66) (fun h66 => ?_)
      refine At.skip ?_
      refine At.next ?_
      refine At.seq ?_
      refine At.region ?_
      refine At.q (some 68) (Q_loadA (k := 3) rfl rfl Try.underlying25 rfl sz25 (by first | omega | (simp <;> omega)) rfl) ?_
      refine At.p (some 69) (P_move rfl rfl) ?_
      refine At.p (some 70) (P_move rfl rfl) ?_
      refine At.p (some 71) (P_quo_i rfl rfl rfl (by omega) (by omega) (by first | decide | omega)) ?_
      refine At.s (S_callV (some 72) [(0, _)] [12] (vs := [_, _, _]) rfl en20 rfl (VN (by simp) rfl (View.sub (j := 0) (m := ni) rfl rfl) V0) (by simp) (c_Expand (info := (info.take ni)) (ni := ni) (k / 2) hi2 hkey (by omega) (fun h => cut_zero (hA (by omega))) (by omega)) (by rintro _ _ ⟨A12, b12, c12, r12, m12, g12a, g12b, rfl, rfl⟩; rfl) ?_)
      rintro _ _ ⟨A12, b12, c12, r12, m12, g12a, g12b, rfl, rfl⟩
      refine At.p (some 67) (P_move rfl rfl) ?_
      refine At.p (some 73) (P_extract rfl rfl rfl) ?_
      refine At.p (some 74) (P_extract rfl rfl rfl) ?_
      refine At.p (some 12) (P_assign rfl rfl) ?_
      refine At.p (some 13) (P_assign rfl rfl) ?_
      refine At.nil ?_
      refine At.next ?_
      refine At.seq ?_
      refine At.draws 10 [] [.q false [0, 1, 2, 3, 4, 5, 6, 7, 8, 9]] (by kernel_rfl) (by kernel_rfl) ?_
      refine At.wp (some 75) (P_move rfl rfl) ?_
      refine At.wp (some 76) (P_cmp rfl rfl rfl rfl rfl rfl) ?_
      refine At.wp (some 77) (P_move rfl rfl) ?_
      refine At.wgy (some 78) (t := 77) rfl rfl rfl rfl (P_move rfl rfl) ?_
      refine At.wgyq (some 79) (t := 77) rfl rfl rfl rfl (Q_strN (l := (expS key (info.take ni) (k / 2))) (n := k / 2) (k := 12) (j := 0) (expS_len _ _ _) rfl Try.underlying22 Try.underlying5 Try.underlying9 rfl (fun h => g12a h) (fun _ => ⟨rfl, rfl, rfl⟩) (by rw [List.drop_zero, List.map_append, List.take_append_of_le_length (by rw [List.length_map, expS_len]; exact Nat.le_refl _), List.take_of_length_le (by rw [List.length_map, expS_len]; exact Nat.le_refl _)])) ?_
      refine At.wgy (some 80) (t := 77) rfl rfl rfl rfl (P_move rfl rfl) ?_
      refine At.wgy (some 81) (t := 77) rfl rfl rfl rfl (P_move rfl rfl) ?_
      refine At.wgy (some 82) (t := 77) rfl rfl rfl rfl (P_quo_i rfl rfl rfl (by omega) (by omega) (by first | decide | omega)) ?_
      refine At.wgy (some 83) (t := 77) rfl rfl rfl rfl (P_slice_sl (h := k / 2) rfl Try.underlying22 sz5 rfl rfl ⟨_, _, rfl, by omega⟩ rfl (by omega) (by omega) (by omega)) ?_
      refine At.wgyq (some 84) (t := 77) rfl rfl rfl rfl (Q_strN (l := (expS key (info.take ni) (k / 2))) (n := k / 2) (k := 8) (j := 0) (expS_len _ _ _) rfl Try.underlying22 Try.underlying5 Try.underlying9 rfl (fun h => cut_zero (g8a (by omega))) (fun _ => ⟨rfl, rfl, rfl⟩) (by rw [List.drop_zero, List.map_append, List.take_append_of_le_length (by rw [List.length_map, expS_len]; omega), exp_take key _ (show k / 2 ≤ k by omega), List.map_take])) ?_
      refine At.wqn ?_
      refine At.wt rfl ?_
      refine At.gy (t := 77) rfl rfl rfl rfl ?_
      refine At.p (some 85) (P_eql_str rfl rfl rfl) ?_
      refine At.p (some 86) (P_pick_t rfl rfl rfl rfl) ?_
      refine At.p (some 6) (P_assign rfl rfl) ?_
      refine At.nil ?_
      refine At.next ?_
      refine At.ret ?_
      refine At.give (.inl rfl) [] (rows' := []) (vs := [_]) rfl ⟨rfl, trivial⟩ rfl (by simp) (by simp) ⟨congrArg Value.bool (by simp), rfl⟩
  ·
    refine At.gn (some 23) (t := 22) rfl g1 rfl rfl ?_
    refine At.gn (some 24) (t := 22) rfl g1 rfl rfl ?_
    refine At.p (some 25) (P_pick_f rfl rfl g1 rfl) ?_
    refine At.nil ?_
    refine At.next ?_
    refine At.cond rfl (fun h => absurd (h.symm.trans rfl) (by decide)) (fun _ => ?_)
    obtain ⟨k, hk⟩ : ∃ k : Nat, k = z := ⟨_, rfl⟩
    have hzk : (z : Int) = (k : Int) := by omega
    refine At.skip ?_
    refine At.next ?_
    refine At.seq ?_
    rw [hzk]
    refine At.region ?_
    refine At.q (some 29) (Q_loadA (k := 3) rfl rfl Try.underlying25 rfl sz25 (by first | omega | (simp <;> omega)) rfl) ?_
    refine At.p (some 30) (P_move rfl rfl) ?_
    refine At.p (some 31) (P_move rfl rfl) ?_
    refine At.s (S_callV (some 32) [(0, _)] [8] (vs := [_, _, _]) rfl en20 rfl (VN (by simp) rfl (View.sub (j := 0) (m := ni) rfl rfl) V0) (by simp) (c_Expand (info := (info.take ni)) (ni := ni) k hi2 hkey (by omega) (fun h => cut_zero (hA (by omega))) (by omega)) (by rintro _ _ ⟨A8, b8, c8, r8, m8, g8a, g8b, rfl, rfl⟩; rfl) ?_)
    rintro _ _ ⟨A8, b8, c8, r8, m8, g8a, g8b, rfl, rfl⟩
    refine At.p (some 28) (P_move rfl rfl) ?_
    refine At.p (some 33) (P_extract rfl rfl rfl) ?_
    refine At.p (some 34) (P_extract rfl rfl rfl) ?_
    refine At.p (some 8) (P_assign rfl rfl) ?_
    refine At.p (some 9) (P_assign rfl rfl) ?_
    refine At.nil ?_
    refine At.next ?_
    refine At.seq ?_
    refine At.region ?_
    refine At.q (some 36) (Q_loadA (k := 3) rfl rfl Try.underlying25 rfl sz25 (by first | omega | (simp <;> omega)) rfl) ?_
    refine At.p (some 37) (P_move rfl rfl) ?_
    refine At.p (some 38) (P_move rfl rfl) ?_
    refine At.s (S_callV (some 39) [(0, _)] [10] (vs := [_, _, _]) rfl en21 rfl (VN (by simp) rfl (View.sub (j := 0) (m := ni) rfl rfl) V0) (by simp) (r_Expand (info := (info.take ni)) (ni := ni) k hi2 hkey (by omega) (fun h => cut_zero (hA (by omega))) (by omega)) (by rintro _ _ ⟨A10, b10, c10, r10, m10, g10a, g10b, rfl, rfl⟩; rfl) ?_)
    rintro _ _ ⟨A10, b10, c10, r10, m10, g10a, g10b, rfl, rfl⟩
    refine At.p (some 35) (P_move rfl rfl) ?_
    refine At.p (some 40) (P_extract rfl rfl rfl) ?_
    refine At.p (some 41) (P_extract rfl rfl rfl) ?_
    refine At.p (some 10) (P_assign rfl rfl) ?_
    refine At.p (some 11) (P_assign rfl rfl) ?_
    refine At.nil ?_
    refine At.next ?_
    refine At.seq ?_
    refine At.seq ?_
    refine At.region ?_
    refine At.s (S_callV (some 42) [] [] (vs := []) rfl en22 rfl V0 (by simp) (c_keys) (by rintro _ _ ⟨rfl, rfl⟩; rfl) ?_)
    rintro _ _ ⟨rfl, rfl⟩
    refine At.p (some 43) (P_not rfl rfl) ?_
    refine At.p (some 44) (P_move rfl rfl) ?_
    refine At.gy (t := 44) rfl rfl rfl rfl ?_
    refine At.p (some 45) (P_move rfl rfl) ?_
    refine At.gy (t := 44) rfl rfl rfl rfl ?_
    refine At.p (some 46) (P_cmp rfl rfl rfl rfl rfl rfl) ?_
    refine At.gy (t := 44) rfl rfl rfl rfl ?_
    refine At.p (some 47) (P_move rfl rfl) ?_
    refine At.gy (t := 44) rfl rfl rfl rfl ?_
    refine At.p (some 48) (P_neq_bool rfl Try.underlying4 rfl rfl) ?_
    refine At.p (some 49) (P_pick_f rfl rfl rfl rfl) ?_
    refine At.p (some 50) (P_move rfl rfl) ?_
    refine At.gy (t := 50) rfl (by simp) rfl rfl ?_
    refine At.p (some 51) (P_move rfl rfl) ?_
    refine At.gy (t := 50) rfl (by simp) rfl rfl ?_
    refine At.p (some 52) (P_cmp rfl rfl rfl rfl rfl rfl) ?_
    refine At.gy (t := 50) rfl (by simp) rfl rfl ?_
    refine At.p (some 53) (P_move rfl rfl) ?_
    refine At.gn (some 54) (t := 53) rfl (by simp) rfl rfl ?_
    refine At.gn (some 55) (t := 53) rfl (by simp) rfl rfl ?_
    refine At.gy (t := 50) rfl (by simp) rfl rfl ?_
    refine At.p (some 56) (P_pick_f rfl rfl (by simp) rfl) ?_
    refine At.p (some 57) (P_pick_f rfl rfl (by simp) rfl) ?_
    refine At.p (some 58) (P_move rfl rfl) ?_
    refine At.gy (t := 58) rfl rfl rfl rfl ?_
    refine At.p (some 59) (P_move rfl rfl) ?_
    refine At.gy (t := 58) rfl rfl rfl rfl ?_
    refine At.q (some 60) (Q_strN (l := (expS key (info.take ni) k)) (n := k) (k := 8) (j := 0) (expS_len _ _ _) rfl Try.underlying22 Try.underlying5 Try.underlying9 rfl (fun h => g8a h) (fun _ => ⟨rfl, rfl, rfl⟩) (by rw [List.drop_zero, List.map_append, List.take_append_of_le_length (by rw [List.length_map, expS_len]; exact Nat.le_refl _), List.take_of_length_le (by rw [List.length_map, expS_len]; exact Nat.le_refl _)])) ?_
    refine At.gy (t := 58) rfl rfl rfl rfl ?_
    refine At.p (some 61) (P_move rfl rfl) ?_
    refine At.gy (t := 58) rfl rfl rfl rfl ?_
    refine At.q (some 62) (Q_strN (l := (expS key (info.take ni) k)) (n := k) (k := 10) (j := 0) (expS_len _ _ _) rfl Try.underlying22 Try.underlying5 Try.underlying9 rfl (fun h => g10a h) (fun _ => ⟨rfl, rfl, rfl⟩) (by rw [List.drop_zero, List.map_append, List.take_append_of_le_length (by rw [List.length_map, expS_len]; exact Nat.le_refl _), List.take_of_length_le (by rw [List.length_map, expS_len]; exact Nat.le_refl _)])) ?_
    refine At.gy (t := 58) rfl rfl rfl rfl ?_
    refine At.p (some 63) (P_neq_str rfl rfl rfl) ?_
    refine At.p (some 64) (P_pick_f rfl rfl rfl rfl) ?_
    refine At.nil ?_
    refine At.next ?_
    refine At.cond rfl (fun h64 => by simp at h64) (fun h64 => ?_)
    refine At.skip ?_
    refine At.next ?_
    refine At.seq ?_
    refine At.seq ?_
    refine At.region ?_
    refine At.p (some 65) (P_move rfl rfl) ?_
    refine At.p (some 66) (P_cmp rfl rfl rfl rfl rfl rfl) ?_
    refine At.nil ?_
    refine At.next ?_
    refine At.cond rfl (fun h66 => by simp at h66) (fun h66 => ?_)
    refine At.skip ?_
    refine At.next ?_
    refine At.seq ?_
    refine At.region ?_
    refine At.q (some 68) (Q_loadA (k := 3) rfl rfl Try.underlying25 rfl sz25 (by first | omega | (simp <;> omega)) rfl) ?_
    refine At.p (some 69) (P_move rfl rfl) ?_
    refine At.p (some 70) (P_move rfl rfl) ?_
    refine At.p (some 71) (P_quo_i rfl rfl rfl (by omega) (by omega) (by first | decide | omega)) ?_
    refine At.s (S_callV (some 72) [(0, _)] [12] (vs := [_, _, _]) rfl en20 rfl (VN (by simp) rfl (View.sub (j := 0) (m := ni) rfl rfl) V0) (by simp) (c_Expand (info := (info.take ni)) (ni := ni) (k / 2) hi2 hkey (by omega) (fun h => cut_zero (hA (by omega))) (by omega)) (by rintro _ _ ⟨A12, b12, c12, r12, m12, g12a, g12b, rfl, rfl⟩; rfl) ?_)
    rintro _ _ ⟨A12, b12, c12, r12, m12, g12a, g12b, rfl, rfl⟩
    refine At.p (some 67) (P_move rfl rfl) ?_
    refine At.p (some 73) (P_extract rfl rfl rfl) ?_
    refine At.p (some 74) (P_extract rfl rfl rfl) ?_
    refine At.p (some 12) (P_assign rfl rfl) ?_
    refine At.p (some 13) (P_assign rfl rfl) ?_
    refine At.nil ?_
    refine At.next ?_
    refine At.seq ?_
    refine At.draws 10 [] [.q false [0, 1, 2, 3, 4, 5, 6, 7, 8, 9]] (by kernel_rfl) (by kernel_rfl) ?_
    refine At.wp (some 75) (P_move rfl rfl) ?_
    refine At.wp (some 76) (P_cmp rfl rfl rfl rfl rfl rfl) ?_
    refine At.wp (some 77) (P_move rfl rfl) ?_
    refine At.wgy (some 78) (t := 77) rfl rfl rfl rfl (P_move rfl rfl) ?_
    refine At.wgyq (some 79) (t := 77) rfl rfl rfl rfl (Q_strN (l := (expS key (info.take ni) (k / 2))) (n := k / 2) (k := 12) (j := 0) (expS_len _ _ _) rfl Try.underlying22 Try.underlying5 Try.underlying9 rfl (fun h => g12a h) (fun _ => ⟨rfl, rfl, rfl⟩) (by rw [List.drop_zero, List.map_append, List.take_append_of_le_length (by rw [List.length_map, expS_len]; exact Nat.le_refl _), List.take_of_length_le (by rw [List.length_map, expS_len]; exact Nat.le_refl _)])) ?_
    refine At.wgy (some 80) (t := 77) rfl rfl rfl rfl (P_move rfl rfl) ?_
    refine At.wgy (some 81) (t := 77) rfl rfl rfl rfl (P_move rfl rfl) ?_
    refine At.wgy (some 82) (t := 77) rfl rfl rfl rfl (P_quo_i rfl rfl rfl (by omega) (by omega) (by first | decide | omega)) ?_
    refine At.wgy (some 83) (t := 77) rfl rfl rfl rfl (P_slice_sl (h := k / 2) rfl Try.underlying22 sz5 rfl rfl ⟨_, _, rfl, by omega⟩ rfl (by omega) (by omega) (by omega)) ?_
    refine At.wgyq (some 84) (t := 77) rfl rfl rfl rfl (Q_strN (l := (expS key (info.take ni) (k / 2))) (n := k / 2) (k := 8) (j := 0) (expS_len _ _ _) rfl Try.underlying22 Try.underlying5 Try.underlying9 rfl (fun h => cut_zero (g8a (by omega))) (fun _ => ⟨rfl, rfl, rfl⟩) (by rw [List.drop_zero, List.map_append, List.take_append_of_le_length (by rw [List.length_map, expS_len]; omega), exp_take key _ (show k / 2 ≤ k by omega), List.map_take])) ?_
    refine At.wqn ?_
    refine At.wt rfl ?_
    refine At.gy (t := 77) rfl rfl rfl rfl ?_
    refine At.p (some 85) (P_eql_str rfl rfl rfl) ?_
    refine At.p (some 86) (P_pick_t rfl rfl rfl rfl) ?_
    refine At.p (some 6) (P_assign rfl rfl) ?_
    refine At.nil ?_
    refine At.next ?_
    refine At.ret ?_
    refine At.give (.inl rfl) [] (rows' := []) (vs := [_]) rfl ⟨rfl, trivial⟩ rfl (by simp) (by simp) ⟨congrArg Value.bool (by simp), rfl⟩

theorem l_Expands (key info : List (BitVec 8)) (z : Int) (A : Option Addr) (ca bq q : Nat) (hkey : key.length = 32) (hA : 0 < info.length → A = some ⟨bq, q, none⟩) (hca : info.length ≤ ca) : Con Try.prog 9 [aggK key, .slice A info.length ca, iV z] [pRow bq q info] (fun v rs => v = .bool true ∧ rs = []) := by
  by_cases h : z < 0 ∨ 8160 < z
  · exact l_ExpandsE key info z A ca bq q hkey h hA hca
  · obtain ⟨k, rfl⟩ : ∃ k : Nat, z = k := ⟨z.toNat, by omega⟩
    exact l_ExpandsV key info k A ca bq q hkey (by omega) hA hca
end Go.Proofs.Ytdkeadfhejkidaa
