import Derived.Test.YtcjfkmhijfcciaaDoorXS2
import Derived.Test.YtcjfkmhijfcciaaDoorG1
namespace Go.Proofs.YtcjfkmhijfcciaaDoor
set_option maxRecDepth 20000
set_option linter.unusedVariables false
set_option linter.unusedSimpArgs false
open Go.SE Go.RowKit
/-- The blocks of an expansion, one after the other. -/
def tK (key info : List (BitVec 8)) : Nat → List (BitVec 8)
 | 0 => []
 | i + 1 => macS key (tK key info i ++ info ++ [BitVec.ofNat 8 (i + 1)])
theorem tK_len (key info : List (BitVec 8)) (i : Nat) : (tK key info i).length = if i = 0 then 0 else 32 := by
 cases i with
 | zero => rfl
 | succ i => rw [tK, macS_len]; rfl
def oK (key info : List (BitVec 8)) : Nat → List (BitVec 8)
 | 0 => []
 | i + 1 => oK key info i ++ tK key info (i + 1)
theorem oK_len (key info : List (BitVec 8)) (i : Nat) : (oK key info i).length = 32 * i := by
 induction i with
 | zero => rfl
 | succ i ih => rw [oK, List.length_append, ih, tK_len, if_neg (by omega)]; omega
def expS (key info : List (BitVec 8)) (n : Nat) : List (BitVec 8) := (oK key info ((n + 31) / 32)).take n
theorem expS_len (key info : List (BitVec 8)) (n : Nat) : (expS key info n).length = n := by
 rw [expS, List.length_take, oK_len]
 omega
theorem oK_split (key info : List (BitVec 8)) {n i : Nat} (h : n ≤ 32 * i) (h2 : 32 * i < n + 32) : oK key info i = expS key info n ++ (oK key info i).drop n := by
 rw [expS, show (n + 31) / 32 = i by omega, List.take_append_drop]

set_option maxHeartbeats 1000000 in
theorem c_Expand0 (key info : List (BitVec 8)) (n : Nat) (A : Option Addr) (ca bq q : Nat) (hkey : key.length = 32) (hn : n ≤ 8160) (hA : 0 < info.length → A = some ⟨bq, q, none⟩) (hinf : info = []) (hl : info.length ≤ 100000) :
  Con Tryd.prog 32 [aggK key, .slice A info.length ca, iV (n : Int)] [pRow bq q info] (fun v rs => ∃ A b c r more, (0 < n → A = some ⟨b, 0, none⟩) ∧ n ≤ c ∧ v = .tuple #[.slice A n c, iV 0] ∧ rs = [⟨true, b, 0, 5, (expS key info n ++ more).map u8V, r⟩]) := by
 refine Con.enter Tryd.func32 Tryd.ntmps32 (Nat.le_of_ble_eq_true rfl) rfl fun w => ?_
 refine At.seq ?_
 have hk32 : key.length = 32 := hkey
 refine At.region ?_
 refine At.s (S_box (some 3) 3 (zs := key.map u8V) rfl rfl rfl (fun b3 => ?_))
 refine At.p (some 6) (P_assign rfl rfl) ?_
 refine At.p (some 7) (P_assign rfl rfl) ?_
 refine At.nil ?_
 refine At.next ?_
 refine At.seq ?_
 refine At.seq ?_
 refine At.region ?_
 refine At.p (some 12) (P_move rfl rfl) ?_
 refine At.p (some 13) (P_cmp rfl rfl rfl rfl rfl rfl) ?_
 refine At.p (some 14) (P_move rfl rfl) ?_
 refine At.gy (t := 14) rfl (by simp) rfl rfl ?_
 refine At.p (some 15) (P_move rfl rfl) ?_
 refine At.gy (t := 14) rfl (by simp) rfl rfl ?_
 refine At.p (some 16) (P_cmp rfl rfl rfl rfl rfl rfl) ?_
 refine At.p (some 17) (P_pick_f rfl rfl (by simp) rfl) ?_
 refine At.nil ?_
 refine At.next ?_
 refine At.cond rfl (fun h17 => by simp at h17; omega) (fun h17 => ?_)
 refine At.skip ?_
 refine At.next ?_
 refine At.seq ?_
 refine At.region ?_
 refine At.p (some 8) (P_assign rfl rfl) ?_
 refine At.p (some 9) (P_assign rfl rfl) ?_
 refine At.nil ?_
 refine At.next ?_
 refine At.seq ?_
 refine At.seq ?_
 refine At.empty 8 0 5 ?_
 refine At.empty 9 0 22 ?_
 refine At.region ?_
 refine At.p (some 10) (P_assign rfl rfl) ?_
 refine At.nil ?_
 refine At.next ?_
 refine At.block ?_
 refine At.loopx (I := fun m fr H => ∃ (i b8 c8 b9 : Nat) (A8 A9 : Option Addr), m = n + 32 - 32 * i ∧ fr = frOf [(1, .slice A info.length ca), (2, iV (n : Int)), (3, ptr b3 0), (8, .slice A8 (oK key info i).length c8), (9, .slice A9 (tK key info i).length (tK key info i).length), (10, u8V (BitVec.ofNat 8 (i + 1)))] ∧ H = hOf [(0, pRow bq q info), (3, ⟨true, b3, 0, 22, (key).map u8V, 0⟩), (8, ⟨true, b8, 0, 5, (oK key info i).map u8V, c8 - (oK key info i).length⟩), (9, ⟨true, b9, 0, 22, ((tK key info i)).map u8V, 0⟩)] ∧ 32 * i < n + 32 ∧ (0 < c8 → A8 = some ⟨b8, 0, none⟩) ∧ (oK key info i).length ≤ c8 ∧ (0 < (tK key info i).length → A9 = some ⟨b9, 0, none⟩)) ?_ ?_
 ·
  intro Kc0 hKc0
  refine At.to [(1, _), (2, _), (3, _), (8, _), (9, _), (10, _)] [(0, _), (3, _), (8, ⟨true, 0, 0, 5, (oK key info 0).map u8V, 0 - (oK key info 0).length⟩), (9, ⟨true, 0, 0, 22, (tK key info 0).map u8V, 0⟩)] (AllL.cons_ (rfl) (AllL.cons_ (rfl) (AllL.cons_ (rfl) (AllL.cons_ (rfl) (AllL.cons_ (rfl) (AllL.cons_ (rfl) trivial)))))) (AllL.cons_ (rfl) (AllL.cons_ (rfl) (AllL.cons_ (rfl) (AllL.cons_ (rfl) trivial)))) ?_
  exact hKc0 _ _ _ ⟨0, 0, 0, 0, none, none, rfl, rfl, rfl, by omega, fun h => absurd h (by decide), by simp [oK], by simp [tK]⟩
 ·
  rintro m fr H ⟨i, b8, c8, b9, A8, A9, rfl, rfl, rfl, hi, hA8, hc8, hA9⟩ Kc0 hKc0
  refine At.seq ?_
  refine At.seq ?_
  refine At.region ?_
  refine At.p (some 18) (P_move rfl rfl) ?_
  refine At.p (some 19) (P_len_sl rfl rfl ⟨_, Tryd.underlying36⟩ rfl) ?_
  refine At.p (some 20) (P_move rfl rfl) ?_
  refine At.p (some 21) (P_cmp rfl rfl rfl rfl rfl rfl) ?_
  refine At.nil ?_
  refine At.next ?_
  refine At.cond rfl (fun h21 => ?_) (fun h21 => ?_)
  · -- cond 21 t
   have hol := oK_len key info i
   have hlt : 32 * i < n := by simp at h21; omega
   have htl := tK_len key info i
   have htl0 : (tK key info i).length ≤ 32 := by rw [htl]; split <;> omega
   have hB1 : (tK key info i ++ info).length = (tK key info i).length + info.length := by simp
   obtain ⟨B, hBe⟩ : ∃ z, z = (tK key info i ++ info ++ [BitVec.ofNat 8 (i + 1)]) := ⟨_, rfl⟩
   have hB2 : B.length = (tK key info i).length + info.length + 1 := by rw [hBe]; simp; omega
   have hml := macS_len key B
   have hT : tK key info (i + 1) = macS key B := by rw [tK, ← hBe]
   have htl1 : (tK key info (i + 1)).length = 32 := by rw [hT, hml]
   refine At.skip ?_
   refine At.next ?_
   refine At.seq ?_
   refine At.block ?_
   refine At.seq ?_
   refine At.eBrute (fun fr H => ∃ b11, fr = frOf [(1, .slice A info.length ca), (2, iV (n : Int)), (3, ptr b3 0), (8, .slice A8 (oK key info i).length c8), (10, u8V (BitVec.ofNat 8 (i + 1))), (11, ptr b11 0)] ∧ H = hOf [(0, pRow bq q info), (3, ⟨true, b3, 0, 22, (key).map u8V, 0⟩), (8, ⟨true, b8, 0, 5, (oK key info i).map u8V, c8 - (oK key info i).length⟩), (11, ⟨true, b11, 0, 22, (macS key B).map u8V, 0⟩)]) (by kernel_rfl) ?_ ?_
   ·
    intro Kb hKb
    refine At.eP 0 (some 24) (P_slice_arr1 rfl Tryd.underlying22 sz5 rfl rfl rfl rfl (by omega) (by omega) (by omega) (by omega)) (by kernel_rfl) (by kernel_rfl) ?_
    refine At.eP 1 (some 25) (P_move rfl rfl) (by kernel_rfl) (by kernel_rfl) ?_
    refine At.eP 2 (some 26) (P_move rfl rfl) (by kernel_rfl) (by kernel_rfl) ?_
    refine At.eP 4 (some 28) (P_move rfl rfl) (by kernel_rfl) (by kernel_rfl) ?_
    refine At.eStep [3, 5, 8] (by kernel_rfl) (by simp) ?_
    refine ⟨?_, ?_, ?_⟩
    ·
     refine At.anyS (S_append0 (any := true) (some 27) rfl Tryd.underlying36 Tryd.underlying36 (.inr ⟨_, rfl⟩) sz5 rfl (Nat.le_refl _) (Src.row (k := 0) (j := 0) rfl hA (fun _ => ⟨rfl, rfl, rfl⟩) (by rw [hinf]; rfl) (by rw [hinf]; rfl)) (by rw [hinf]; rfl) ?_)
     refine At.eStep [5, 8] (by kernel_rfl) (by simp) ?_
     refine ⟨?_, ?_⟩
     ·
      refine At.anyS (S_buildSliceV (some 29) 29 ([BitVec.ofNat 8 (i + 1)].map u8V) rfl Tryd.underlying36 sz5 ze5 rfl rfl (by decide) (by decide) rfl rfl (fun b29 => ?_))
      refine At.eStep [6, 8] (by kernel_rfl) (by simp) ?_
      refine ⟨?_, ?_⟩
      ·
       refine At.anyS (S_appendV (some 30) 27 (B) (f := u8V) (l := (tK key info i)) (L := [BitVec.ofNat 8 (i + 1)]) rfl Tryd.underlying36 Tryd.underlying36 (.inr ⟨_, rfl⟩) sz5 by5 ze5 rfl rfl (Src.row (k := 9) (j := 0) rfl hA9 (fun _ => ⟨rfl, rfl, rfl⟩) (by simp [List.take_of_length_le]) (by simp)) (by omega) (Src.row (k := 29) (j := 0) rfl (fun _ => rfl) (fun _ => ⟨rfl, rfl, rfl⟩) rfl rfl) (by omega) (by omega) (by rw [hBe, hinf, List.append_nil]) ?_)
       intro b30 c30 g30b
       refine At.eStep [7, 8] (by kernel_rfl) (by simp) ?_
       refine ⟨?_, ?_⟩
       ·
        refine At.anyS (S_callV (some 31) [(3, _), (27, _)] [] (vs := [_, _]) rfl en43 rfl (VN (by simp) rfl View.all (VN (by simp) rfl View.all V0)) (by simp) (c_MacN (key := key) (b := B) (n := 32) (nb := B.length) hkey rfl (fun _ => rfl) (fun _ => rfl) (by decide) (by omega)) (by rintro _ _ ⟨rfl, rfl⟩; rfl) ?_)
        rintro _ _ ⟨rfl, rfl⟩
        refine At.eStep [8] (by kernel_rfl) (by simp) ?_
        refine At.anyS (S_alloc (some 11) 11 (zs := (List.replicate 32 0#8).map u8V) rfl ze22 rfl (fun b11 => ?_))
        refine At.eStep [9] (by kernel_rfl) (by simp) ?_
        refine At.anyS (S_storeA none (k := 11) (vs := _) rfl rfl rfl (by first | (rw [sz22]; simp <;> omega) | exact sz22) rfl WA WB rfl WC ?_)
        refine At.eEnd (by kernel_rfl) ?_
        refine At.next ?_
        refine At.to [(1, _), (2, _), (3, _), (8, _), (10, _), (11, _)] [(0, _), (3, _), (8, _), (11, _)] (AllL.cons_ (rfl) (AllL.cons_ (rfl) (AllL.cons_ (rfl) (AllL.cons_ (rfl) (AllL.cons_ (rfl) (AllL.cons_ (rfl) trivial)))))) (AllL.cons_ (rfl) (AllL.cons_ (rfl) (AllL.cons_ (rfl) (AllL.cons_ (rfl) trivial)))) ?_
        exact hKb _ _ ⟨b11, rfl, rfl⟩
       ·
        refine At.anyS (S_alloc (some 11) 11 (zs := (List.replicate 32 0#8).map u8V) rfl ze22 rfl (fun b11 => ?_))
        refine At.eStep [7] (by kernel_rfl) (by simp) ?_
        refine At.anyS (S_callV (some 31) [(3, _), (27, _)] [] (vs := [_, _]) rfl en43 rfl (VN (by simp) rfl View.all (VN (by simp) rfl View.all V0)) (by simp) (c_MacN (key := key) (b := B) (n := 32) (nb := B.length) hkey rfl (fun _ => rfl) (fun _ => rfl) (by decide) (by omega)) (by rintro _ _ ⟨rfl, rfl⟩; rfl) ?_)
        rintro _ _ ⟨rfl, rfl⟩
        refine At.eStep [9] (by kernel_rfl) (by simp) ?_
        refine At.anyS (S_storeA none (k := 11) (vs := _) rfl rfl rfl (by first | (rw [sz22]; simp <;> omega) | exact sz22) rfl WA WB rfl WC ?_)
        refine At.eEnd (by kernel_rfl) ?_
        refine At.next ?_
        refine At.to [(1, _), (2, _), (3, _), (8, _), (10, _), (11, _)] [(0, _), (3, _), (8, _), (11, _)] (AllL.cons_ (rfl) (AllL.cons_ (rfl) (AllL.cons_ (rfl) (AllL.cons_ (rfl) (AllL.cons_ (rfl) (AllL.cons_ (rfl) trivial)))))) (AllL.cons_ (rfl) (AllL.cons_ (rfl) (AllL.cons_ (rfl) (AllL.cons_ (rfl) trivial)))) ?_
        exact hKb _ _ ⟨b11, rfl, rfl⟩
      ·
       refine At.anyS (S_alloc (some 11) 11 (zs := (List.replicate 32 0#8).map u8V) rfl ze22 rfl (fun b11 => ?_))
       refine At.eStep [6] (by kernel_rfl) (by simp) ?_
       refine At.anyS (S_appendV (some 30) 27 (B) (f := u8V) (l := (tK key info i)) (L := [BitVec.ofNat 8 (i + 1)]) rfl Tryd.underlying36 Tryd.underlying36 (.inr ⟨_, rfl⟩) sz5 by5 ze5 rfl rfl (Src.row (k := 9) (j := 0) rfl hA9 (fun _ => ⟨rfl, rfl, rfl⟩) (by simp [List.take_of_length_le]) (by simp)) (by omega) (Src.row (k := 29) (j := 0) rfl (fun _ => rfl) (fun _ => ⟨rfl, rfl, rfl⟩) rfl rfl) (by omega) (by omega) (by rw [hBe, hinf, List.append_nil]) ?_)
       intro b30 c30 g30b
       refine At.eStep [7] (by kernel_rfl) (by simp) ?_
       refine At.anyS (S_callV (some 31) [(3, _), (27, _)] [] (vs := [_, _]) rfl en43 rfl (VN (by simp) rfl View.all (VN (by simp) rfl View.all V0)) (by simp) (c_MacN (key := key) (b := B) (n := 32) (nb := B.length) hkey rfl (fun _ => rfl) (fun _ => rfl) (by decide) (by omega)) (by rintro _ _ ⟨rfl, rfl⟩; rfl) ?_)
       rintro _ _ ⟨rfl, rfl⟩
       refine At.eStep [9] (by kernel_rfl) (by simp) ?_
       refine At.anyS (S_storeA none (k := 11) (vs := _) rfl rfl rfl (by first | (rw [sz22]; simp <;> omega) | exact sz22) rfl WA WB rfl WC ?_)
       refine At.eEnd (by kernel_rfl) ?_
       refine At.next ?_
       refine At.to [(1, _), (2, _), (3, _), (8, _), (10, _), (11, _)] [(0, _), (3, _), (8, _), (11, _)] (AllL.cons_ (rfl) (AllL.cons_ (rfl) (AllL.cons_ (rfl) (AllL.cons_ (rfl) (AllL.cons_ (rfl) (AllL.cons_ (rfl) trivial)))))) (AllL.cons_ (rfl) (AllL.cons_ (rfl) (AllL.cons_ (rfl) (AllL.cons_ (rfl) trivial)))) ?_
       exact hKb _ _ ⟨b11, rfl, rfl⟩
     ·
      refine At.anyS (S_alloc (some 11) 11 (zs := (List.replicate 32 0#8).map u8V) rfl ze22 rfl (fun b11 => ?_))
      refine At.eStep [5] (by kernel_rfl) (by simp) ?_
      refine At.anyS (S_buildSliceV (some 29) 29 ([BitVec.ofNat 8 (i + 1)].map u8V) rfl Tryd.underlying36 sz5 ze5 rfl rfl (by decide) (by decide) rfl rfl (fun b29 => ?_))
      refine At.eStep [6] (by kernel_rfl) (by simp) ?_
      refine At.anyS (S_appendV (some 30) 27 (B) (f := u8V) (l := (tK key info i)) (L := [BitVec.ofNat 8 (i + 1)]) rfl Tryd.underlying36 Tryd.underlying36 (.inr ⟨_, rfl⟩) sz5 by5 ze5 rfl rfl (Src.row (k := 9) (j := 0) rfl hA9 (fun _ => ⟨rfl, rfl, rfl⟩) (by simp [List.take_of_length_le]) (by simp)) (by omega) (Src.row (k := 29) (j := 0) rfl (fun _ => rfl) (fun _ => ⟨rfl, rfl, rfl⟩) rfl rfl) (by omega) (by omega) (by rw [hBe, hinf, List.append_nil]) ?_)
      intro b30 c30 g30b
      refine At.eStep [7] (by kernel_rfl) (by simp) ?_
      refine At.anyS (S_callV (some 31) [(3, _), (27, _)] [] (vs := [_, _]) rfl en43 rfl (VN (by simp) rfl View.all (VN (by simp) rfl View.all V0)) (by simp) (c_MacN (key := key) (b := B) (n := 32) (nb := B.length) hkey rfl (fun _ => rfl) (fun _ => rfl) (by decide) (by omega)) (by rintro _ _ ⟨rfl, rfl⟩; rfl) ?_)
      rintro _ _ ⟨rfl, rfl⟩
      refine At.eStep [9] (by kernel_rfl) (by simp) ?_
      refine At.anyS (S_storeA none (k := 11) (vs := _) rfl rfl rfl (by first | (rw [sz22]; simp <;> omega) | exact sz22) rfl WA WB rfl WC ?_)
      refine At.eEnd (by kernel_rfl) ?_
      refine At.next ?_
      refine At.to [(1, _), (2, _), (3, _), (8, _), (10, _), (11, _)] [(0, _), (3, _), (8, _), (11, _)] (AllL.cons_ (rfl) (AllL.cons_ (rfl) (AllL.cons_ (rfl) (AllL.cons_ (rfl) (AllL.cons_ (rfl) (AllL.cons_ (rfl) trivial)))))) (AllL.cons_ (rfl) (AllL.cons_ (rfl) (AllL.cons_ (rfl) (AllL.cons_ (rfl) trivial)))) ?_
      exact hKb _ _ ⟨b11, rfl, rfl⟩
    ·
     refine At.anyS (S_buildSliceV (some 29) 29 ([BitVec.ofNat 8 (i + 1)].map u8V) rfl Tryd.underlying36 sz5 ze5 rfl rfl (by decide) (by decide) rfl rfl (fun b29 => ?_))
     refine At.eStep [3, 8] (by kernel_rfl) (by simp) ?_
     refine ⟨?_, ?_⟩
     ·
      refine At.anyS (S_append0 (any := true) (some 27) rfl Tryd.underlying36 Tryd.underlying36 (.inr ⟨_, rfl⟩) sz5 rfl (Nat.le_refl _) (Src.row (k := 0) (j := 0) rfl hA (fun _ => ⟨rfl, rfl, rfl⟩) (by rw [hinf]; rfl) (by rw [hinf]; rfl)) (by rw [hinf]; rfl) ?_)
      refine At.eStep [6, 8] (by kernel_rfl) (by simp) ?_
      refine ⟨?_, ?_⟩
      ·
       refine At.anyS (S_appendV (some 30) 27 (B) (f := u8V) (l := (tK key info i)) (L := [BitVec.ofNat 8 (i + 1)]) rfl Tryd.underlying36 Tryd.underlying36 (.inr ⟨_, rfl⟩) sz5 by5 ze5 rfl rfl (Src.row (k := 9) (j := 0) rfl hA9 (fun _ => ⟨rfl, rfl, rfl⟩) (by simp [List.take_of_length_le]) (by simp)) (by omega) (Src.row (k := 29) (j := 0) rfl (fun _ => rfl) (fun _ => ⟨rfl, rfl, rfl⟩) rfl rfl) (by omega) (by omega) (by rw [hBe, hinf, List.append_nil]) ?_)
       intro b30 c30 g30b
       refine At.eStep [7, 8] (by kernel_rfl) (by simp) ?_
       refine ⟨?_, ?_⟩
       ·
        refine At.anyS (S_callV (some 31) [(3, _), (27, _)] [] (vs := [_, _]) rfl en43 rfl (VN (by simp) rfl View.all (VN (by simp) rfl View.all V0)) (by simp) (c_MacN (key := key) (b := B) (n := 32) (nb := B.length) hkey rfl (fun _ => rfl) (fun _ => rfl) (by decide) (by omega)) (by rintro _ _ ⟨rfl, rfl⟩; rfl) ?_)
        rintro _ _ ⟨rfl, rfl⟩
        refine At.eStep [8] (by kernel_rfl) (by simp) ?_
        refine At.anyS (S_alloc (some 11) 11 (zs := (List.replicate 32 0#8).map u8V) rfl ze22 rfl (fun b11 => ?_))
        refine At.eStep [9] (by kernel_rfl) (by simp) ?_
        refine At.anyS (S_storeA none (k := 11) (vs := _) rfl rfl rfl (by first | (rw [sz22]; simp <;> omega) | exact sz22) rfl WA WB rfl WC ?_)
        refine At.eEnd (by kernel_rfl) ?_
        refine At.next ?_
        refine At.to [(1, _), (2, _), (3, _), (8, _), (10, _), (11, _)] [(0, _), (3, _), (8, _), (11, _)] (AllL.cons_ (rfl) (AllL.cons_ (rfl) (AllL.cons_ (rfl) (AllL.cons_ (rfl) (AllL.cons_ (rfl) (AllL.cons_ (rfl) trivial)))))) (AllL.cons_ (rfl) (AllL.cons_ (rfl) (AllL.cons_ (rfl) (AllL.cons_ (rfl) trivial)))) ?_
        exact hKb _ _ ⟨b11, rfl, rfl⟩
       ·
        refine At.anyS (S_alloc (some 11) 11 (zs := (List.replicate 32 0#8).map u8V) rfl ze22 rfl (fun b11 => ?_))
        refine At.eStep [7] (by kernel_rfl) (by simp) ?_
        refine At.anyS (S_callV (some 31) [(3, _), (27, _)] [] (vs := [_, _]) rfl en43 rfl (VN (by simp) rfl View.all (VN (by simp) rfl View.all V0)) (by simp) (c_MacN (key := key) (b := B) (n := 32) (nb := B.length) hkey rfl (fun _ => rfl) (fun _ => rfl) (by decide) (by omega)) (by rintro _ _ ⟨rfl, rfl⟩; rfl) ?_)
        rintro _ _ ⟨rfl, rfl⟩
        refine At.eStep [9] (by kernel_rfl) (by simp) ?_
        refine At.anyS (S_storeA none (k := 11) (vs := _) rfl rfl rfl (by first | (rw [sz22]; simp <;> omega) | exact sz22) rfl WA WB rfl WC ?_)
        refine At.eEnd (by kernel_rfl) ?_
        refine At.next ?_
        refine At.to [(1, _), (2, _), (3, _), (8, _), (10, _), (11, _)] [(0, _), (3, _), (8, _), (11, _)] (AllL.cons_ (rfl) (AllL.cons_ (rfl) (AllL.cons_ (rfl) (AllL.cons_ (rfl) (AllL.cons_ (rfl) (AllL.cons_ (rfl) trivial)))))) (AllL.cons_ (rfl) (AllL.cons_ (rfl) (AllL.cons_ (rfl) (AllL.cons_ (rfl) trivial)))) ?_
        exact hKb _ _ ⟨b11, rfl, rfl⟩
      ·
       refine At.anyS (S_alloc (some 11) 11 (zs := (List.replicate 32 0#8).map u8V) rfl ze22 rfl (fun b11 => ?_))
       refine At.eStep [6] (by kernel_rfl) (by simp) ?_
       refine At.anyS (S_appendV (some 30) 27 (B) (f := u8V) (l := (tK key info i)) (L := [BitVec.ofNat 8 (i + 1)]) rfl Tryd.underlying36 Tryd.underlying36 (.inr ⟨_, rfl⟩) sz5 by5 ze5 rfl rfl (Src.row (k := 9) (j := 0) rfl hA9 (fun _ => ⟨rfl, rfl, rfl⟩) (by simp [List.take_of_length_le]) (by simp)) (by omega) (Src.row (k := 29) (j := 0) rfl (fun _ => rfl) (fun _ => ⟨rfl, rfl, rfl⟩) rfl rfl) (by omega) (by omega) (by rw [hBe, hinf, List.append_nil]) ?_)
       intro b30 c30 g30b
       refine At.eStep [7] (by kernel_rfl) (by simp) ?_
       refine At.anyS (S_callV (some 31) [(3, _), (27, _)] [] (vs := [_, _]) rfl en43 rfl (VN (by simp) rfl View.all (VN (by simp) rfl View.all V0)) (by simp) (c_MacN (key := key) (b := B) (n := 32) (nb := B.length) hkey rfl (fun _ => rfl) (fun _ => rfl) (by decide) (by omega)) (by rintro _ _ ⟨rfl, rfl⟩; rfl) ?_)
       rintro _ _ ⟨rfl, rfl⟩
       refine At.eStep [9] (by kernel_rfl) (by simp) ?_
       refine At.anyS (S_storeA none (k := 11) (vs := _) rfl rfl rfl (by first | (rw [sz22]; simp <;> omega) | exact sz22) rfl WA WB rfl WC ?_)
       refine At.eEnd (by kernel_rfl) ?_
       refine At.next ?_
       refine At.to [(1, _), (2, _), (3, _), (8, _), (10, _), (11, _)] [(0, _), (3, _), (8, _), (11, _)] (AllL.cons_ (rfl) (AllL.cons_ (rfl) (AllL.cons_ (rfl) (AllL.cons_ (rfl) (AllL.cons_ (rfl) (AllL.cons_ (rfl) trivial)))))) (AllL.cons_ (rfl) (AllL.cons_ (rfl) (AllL.cons_ (rfl) (AllL.cons_ (rfl) trivial)))) ?_
       exact hKb _ _ ⟨b11, rfl, rfl⟩
     ·
      refine At.anyS (S_alloc (some 11) 11 (zs := (List.replicate 32 0#8).map u8V) rfl ze22 rfl (fun b11 => ?_))
      refine At.eStep [3] (by kernel_rfl) (by simp) ?_
      refine At.anyS (S_append0 (any := true) (some 27) rfl Tryd.underlying36 Tryd.underlying36 (.inr ⟨_, rfl⟩) sz5 rfl (Nat.le_refl _) (Src.row (k := 0) (j := 0) rfl hA (fun _ => ⟨rfl, rfl, rfl⟩) (by rw [hinf]; rfl) (by rw [hinf]; rfl)) (by rw [hinf]; rfl) ?_)
      refine At.eStep [6] (by kernel_rfl) (by simp) ?_
      refine At.anyS (S_appendV (some 30) 27 (B) (f := u8V) (l := (tK key info i)) (L := [BitVec.ofNat 8 (i + 1)]) rfl Tryd.underlying36 Tryd.underlying36 (.inr ⟨_, rfl⟩) sz5 by5 ze5 rfl rfl (Src.row (k := 9) (j := 0) rfl hA9 (fun _ => ⟨rfl, rfl, rfl⟩) (by simp [List.take_of_length_le]) (by simp)) (by omega) (Src.row (k := 29) (j := 0) rfl (fun _ => rfl) (fun _ => ⟨rfl, rfl, rfl⟩) rfl rfl) (by omega) (by omega) (by rw [hBe, hinf, List.append_nil]) ?_)
      intro b30 c30 g30b
      refine At.eStep [7] (by kernel_rfl) (by simp) ?_
      refine At.anyS (S_callV (some 31) [(3, _), (27, _)] [] (vs := [_, _]) rfl en43 rfl (VN (by simp) rfl View.all (VN (by simp) rfl View.all V0)) (by simp) (c_MacN (key := key) (b := B) (n := 32) (nb := B.length) hkey rfl (fun _ => rfl) (fun _ => rfl) (by decide) (by omega)) (by rintro _ _ ⟨rfl, rfl⟩; rfl) ?_)
      rintro _ _ ⟨rfl, rfl⟩
      refine At.eStep [9] (by kernel_rfl) (by simp) ?_
      refine At.anyS (S_storeA none (k := 11) (vs := _) rfl rfl rfl (by first | (rw [sz22]; simp <;> omega) | exact sz22) rfl WA WB rfl WC ?_)
      refine At.eEnd (by kernel_rfl) ?_
      refine At.next ?_
      refine At.to [(1, _), (2, _), (3, _), (8, _), (10, _), (11, _)] [(0, _), (3, _), (8, _), (11, _)] (AllL.cons_ (rfl) (AllL.cons_ (rfl) (AllL.cons_ (rfl) (AllL.cons_ (rfl) (AllL.cons_ (rfl) (AllL.cons_ (rfl) trivial)))))) (AllL.cons_ (rfl) (AllL.cons_ (rfl) (AllL.cons_ (rfl) (AllL.cons_ (rfl) trivial)))) ?_
      exact hKb _ _ ⟨b11, rfl, rfl⟩
    ·
     refine At.anyS (S_alloc (some 11) 11 (zs := (List.replicate 32 0#8).map u8V) rfl ze22 rfl (fun b11 => ?_))
     refine At.eStep [3, 5] (by kernel_rfl) (by simp) ?_
     refine ⟨?_, ?_⟩
     ·
      refine At.anyS (S_append0 (any := true) (some 27) rfl Tryd.underlying36 Tryd.underlying36 (.inr ⟨_, rfl⟩) sz5 rfl (Nat.le_refl _) (Src.row (k := 0) (j := 0) rfl hA (fun _ => ⟨rfl, rfl, rfl⟩) (by rw [hinf]; rfl) (by rw [hinf]; rfl)) (by rw [hinf]; rfl) ?_)
      refine At.eStep [5] (by kernel_rfl) (by simp) ?_
      refine At.anyS (S_buildSliceV (some 29) 29 ([BitVec.ofNat 8 (i + 1)].map u8V) rfl Tryd.underlying36 sz5 ze5 rfl rfl (by decide) (by decide) rfl rfl (fun b29 => ?_))
      refine At.eStep [6] (by kernel_rfl) (by simp) ?_
      refine At.anyS (S_appendV (some 30) 27 (B) (f := u8V) (l := (tK key info i)) (L := [BitVec.ofNat 8 (i + 1)]) rfl Tryd.underlying36 Tryd.underlying36 (.inr ⟨_, rfl⟩) sz5 by5 ze5 rfl rfl (Src.row (k := 9) (j := 0) rfl hA9 (fun _ => ⟨rfl, rfl, rfl⟩) (by simp [List.take_of_length_le]) (by simp)) (by omega) (Src.row (k := 29) (j := 0) rfl (fun _ => rfl) (fun _ => ⟨rfl, rfl, rfl⟩) rfl rfl) (by omega) (by omega) (by rw [hBe, hinf, List.append_nil]) ?_)
      intro b30 c30 g30b
      refine At.eStep [7] (by kernel_rfl) (by simp) ?_
      refine At.anyS (S_callV (some 31) [(3, _), (27, _)] [] (vs := [_, _]) rfl en43 rfl (VN (by simp) rfl View.all (VN (by simp) rfl View.all V0)) (by simp) (c_MacN (key := key) (b := B) (n := 32) (nb := B.length) hkey rfl (fun _ => rfl) (fun _ => rfl) (by decide) (by omega)) (by rintro _ _ ⟨rfl, rfl⟩; rfl) ?_)
      rintro _ _ ⟨rfl, rfl⟩
      refine At.eStep [9] (by kernel_rfl) (by simp) ?_
      refine At.anyS (S_storeA none (k := 11) (vs := _) rfl rfl rfl (by first | (rw [sz22]; simp <;> omega) | exact sz22) rfl WA WB rfl WC ?_)
      refine At.eEnd (by kernel_rfl) ?_
      refine At.next ?_
      refine At.to [(1, _), (2, _), (3, _), (8, _), (10, _), (11, _)] [(0, _), (3, _), (8, _), (11, _)] (AllL.cons_ (rfl) (AllL.cons_ (rfl) (AllL.cons_ (rfl) (AllL.cons_ (rfl) (AllL.cons_ (rfl) (AllL.cons_ (rfl) trivial)))))) (AllL.cons_ (rfl) (AllL.cons_ (rfl) (AllL.cons_ (rfl) (AllL.cons_ (rfl) trivial)))) ?_
      exact hKb _ _ ⟨b11, rfl, rfl⟩
     ·
      refine At.anyS (S_buildSliceV (some 29) 29 ([BitVec.ofNat 8 (i + 1)].map u8V) rfl Tryd.underlying36 sz5 ze5 rfl rfl (by decide) (by decide) rfl rfl (fun b29 => ?_))
      refine At.eStep [3] (by kernel_rfl) (by simp) ?_
      refine At.anyS (S_append0 (any := true) (some 27) rfl Tryd.underlying36 Tryd.underlying36 (.inr ⟨_, rfl⟩) sz5 rfl (Nat.le_refl _) (Src.row (k := 0) (j := 0) rfl hA (fun _ => ⟨rfl, rfl, rfl⟩) (by rw [hinf]; rfl) (by rw [hinf]; rfl)) (by rw [hinf]; rfl) ?_)
      refine At.eStep [6] (by kernel_rfl) (by simp) ?_
      refine At.anyS (S_appendV (some 30) 27 (B) (f := u8V) (l := (tK key info i)) (L := [BitVec.ofNat 8 (i + 1)]) rfl Tryd.underlying36 Tryd.underlying36 (.inr ⟨_, rfl⟩) sz5 by5 ze5 rfl rfl (Src.row (k := 9) (j := 0) rfl hA9 (fun _ => ⟨rfl, rfl, rfl⟩) (by simp [List.take_of_length_le]) (by simp)) (by omega) (Src.row (k := 29) (j := 0) rfl (fun _ => rfl) (fun _ => ⟨rfl, rfl, rfl⟩) rfl rfl) (by omega) (by omega) (by rw [hBe, hinf, List.append_nil]) ?_)
      intro b30 c30 g30b
      refine At.eStep [7] (by kernel_rfl) (by simp) ?_
      refine At.anyS (S_callV (some 31) [(3, _), (27, _)] [] (vs := [_, _]) rfl en43 rfl (VN (by simp) rfl View.all (VN (by simp) rfl View.all V0)) (by simp) (c_MacN (key := key) (b := B) (n := 32) (nb := B.length) hkey rfl (fun _ => rfl) (fun _ => rfl) (by decide) (by omega)) (by rintro _ _ ⟨rfl, rfl⟩; rfl) ?_)
      rintro _ _ ⟨rfl, rfl⟩
      refine At.eStep [9] (by kernel_rfl) (by simp) ?_
      refine At.anyS (S_storeA none (k := 11) (vs := _) rfl rfl rfl (by first | (rw [sz22]; simp <;> omega) | exact sz22) rfl WA WB rfl WC ?_)
      refine At.eEnd (by kernel_rfl) ?_
      refine At.next ?_
      refine At.to [(1, _), (2, _), (3, _), (8, _), (10, _), (11, _)] [(0, _), (3, _), (8, _), (11, _)] (AllL.cons_ (rfl) (AllL.cons_ (rfl) (AllL.cons_ (rfl) (AllL.cons_ (rfl) (AllL.cons_ (rfl) (AllL.cons_ (rfl) trivial)))))) (AllL.cons_ (rfl) (AllL.cons_ (rfl) (AllL.cons_ (rfl) (AllL.cons_ (rfl) trivial)))) ?_
      exact hKb _ _ ⟨b11, rfl, rfl⟩
   ·
    rintro fr H ⟨b11, rfl, rfl⟩
    refine At.next ?_
    refine At.seq ?_
    rw [← hT]
    refine At.swap 9 11 ?_
    refine At.region ?_
    refine At.p (some 32) (P_slice_arr1 rfl Tryd.underlying22 sz5 rfl rfl rfl rfl (by omega) (by omega) (by omega) (by omega)) ?_
    refine At.p (some 9) (P_assign rfl rfl) ?_
    refine At.nil ?_
    refine At.next ?_
    refine At.region ?_
    refine At.p (some 33) (P_move rfl rfl) ?_
    refine At.p (some 34) (P_move rfl rfl) ?_
    refine At.s (S_appendM (some 35) 8 (oK key info (i + 1)) (f := u8V) (l := oK key info i) (L := tK key info (i + 1)) rfl Tryd.underlying36 Tryd.underlying36 (.inr ⟨_, rfl⟩) sz5 by5 ze5 rfl rfl (fun h => ⟨hA8 h, rfl⟩) rfl (by omega) (Src.row (k := 9) (j := 0) rfl (fun _ => rfl) (fun _ => ⟨rfl, rfl, rfl⟩) (by rw [List.drop_zero, List.take_of_length_le (by rw [List.length_map, htl1]; decide)]) (by rw [List.length_map, htl1])) (fun _ => rfl) (by omega) (by omega) rfl htl1 ?_)
    intro A8 b8 c8 g1 g2
    refine At.p (some 8) (P_assign rfl rfl) ?_
    refine At.nil ?_
    refine At.inb_n ?_
    refine At.next ?_
    refine At.region ?_
    refine At.p (some 22) (P_move rfl rfl) ?_
    refine At.p (some 23) (P_add_w UK.u8 (b := 1#8) rfl rfl rfl) ?_
    refine At.p (some 10) (P_assign rfl rfl) ?_
    refine At.nil ?_
    refine At.next ?_
    refine At.to [(1, _), (2, _), (3, _), (8, _), (9, .slice (some ⟨b11, 0, none⟩) (tK key info (i + 1)).length (tK key info (i + 1)).length), (10, u8V (BitVec.ofNat 8 (i + 1 + 1)))] [(0, _), (3, _), (8, _), (9, ⟨true, b11, 0, 22, (tK key info (i + 1)).map u8V, 0⟩)] (AllL.cons_ (rfl) (AllL.cons_ (rfl) (AllL.cons_ (rfl) (AllL.cons_ (rfl) (AllL.cons_ (by rw [tK_len, if_neg (by omega)]; rfl) (AllL.cons_ (congrArg (fun z => some (u8V z)) (BitVec.ofNat_add (i + 1) 1).symm) trivial)))))) (AllL.cons_ (rfl) (AllL.cons_ (rfl) (AllL.cons_ (rfl) (AllL.cons_ (rfl) trivial)))) ?_
    exact hKc0 _ _ _ (by omega) ⟨i + 1, _, _, b11, _, some ⟨b11, 0, none⟩, rfl, rfl, rfl, by omega, g1, g2, fun _ => rfl⟩
  · -- cond 21 f
   have hol := oK_len key info i
   have hge : n ≤ 32 * i := by simp at h21; omega
   refine At.exit ?_
   refine At.thn_e ?_
   refine At.thn_e ?_
   refine At.inb_hit ?_
   refine At.next ?_
   refine At.seq ?_
   refine At.region ?_
   refine At.p (some 36) (P_move rfl rfl) ?_
   refine At.p (some 37) (P_move rfl rfl) ?_
   refine At.p (some 38) (P_move rfl rfl) ?_
   refine At.p (some 39) (P_slice_sl (h := n) (m := n) rfl Tryd.underlying36 sz5 rfl rfl ⟨_, _, rfl, by omega⟩ ⟨_, _, rfl, by omega⟩ (by omega) (by omega) (by omega)) ?_
   refine At.p (some 6) (P_assign rfl rfl) ?_
   refine At.p (some 7) (P_assign rfl rfl) ?_
   refine At.nil ?_
   refine At.next ?_
   refine At.ret ?_
   refine At.give (.inl rfl) [8] (rows' := [_]) (vs := [_, _]) rfl ⟨rfl, rfl, trivial⟩ rfl (by simp) (by simp) ⟨_, b8, _, _, (oK key info i).drop n, fun h => cut_zero (hA8 (by omega)), Nat.le_refl _, rfl, by rw [← oK_split key info hge hi]⟩

set_option maxHeartbeats 1000000 in
theorem c_Expand1 (key info : List (BitVec 8)) (n : Nat) (A : Option Addr) (ca bq q : Nat) (hkey : key.length = 32) (hn : n ≤ 8160) (hA : 0 < info.length → A = some ⟨bq, q, none⟩) (hinf : 0 < info.length) (hl : info.length ≤ 100000) :
  Con Tryd.prog 32 [aggK key, .slice A info.length ca, iV (n : Int)] [pRow bq q info] (fun v rs => ∃ A b c r more, (0 < n → A = some ⟨b, 0, none⟩) ∧ n ≤ c ∧ v = .tuple #[.slice A n c, iV 0] ∧ rs = [⟨true, b, 0, 5, (expS key info n ++ more).map u8V, r⟩]) := by
 refine Con.enter Tryd.func32 Tryd.ntmps32 (Nat.le_of_ble_eq_true rfl) rfl fun w => ?_
 refine At.seq ?_
 have hk32 : key.length = 32 := hkey
 refine At.region ?_
 refine At.s (S_box (some 3) 3 (zs := key.map u8V) rfl rfl rfl (fun b3 => ?_))
 refine At.p (some 6) (P_assign rfl rfl) ?_
 refine At.p (some 7) (P_assign rfl rfl) ?_
 refine At.nil ?_
 refine At.next ?_
 refine At.seq ?_
 refine At.seq ?_
 refine At.region ?_
 refine At.p (some 12) (P_move rfl rfl) ?_
 refine At.p (some 13) (P_cmp rfl rfl rfl rfl rfl rfl) ?_
 refine At.p (some 14) (P_move rfl rfl) ?_
 refine At.gy (t := 14) rfl (by simp) rfl rfl ?_
 refine At.p (some 15) (P_move rfl rfl) ?_
 refine At.gy (t := 14) rfl (by simp) rfl rfl ?_
 refine At.p (some 16) (P_cmp rfl rfl rfl rfl rfl rfl) ?_
 refine At.p (some 17) (P_pick_f rfl rfl (by simp) rfl) ?_
 refine At.nil ?_
 refine At.next ?_
 refine At.cond rfl (fun h17 => by simp at h17; omega) (fun h17 => ?_)
 refine At.skip ?_
 refine At.next ?_
 refine At.seq ?_
 refine At.region ?_
 refine At.p (some 8) (P_assign rfl rfl) ?_
 refine At.p (some 9) (P_assign rfl rfl) ?_
 refine At.nil ?_
 refine At.next ?_
 refine At.seq ?_
 refine At.seq ?_
 refine At.empty 8 0 5 ?_
 refine At.empty 9 0 22 ?_
 refine At.region ?_
 refine At.p (some 10) (P_assign rfl rfl) ?_
 refine At.nil ?_
 refine At.next ?_
 refine At.block ?_
 refine At.loopx (I := fun m fr H => ∃ (i b8 c8 b9 : Nat) (A8 A9 : Option Addr), m = n + 32 - 32 * i ∧ fr = frOf [(1, .slice A info.length ca), (2, iV (n : Int)), (3, ptr b3 0), (8, .slice A8 (oK key info i).length c8), (9, .slice A9 (tK key info i).length (tK key info i).length), (10, u8V (BitVec.ofNat 8 (i + 1)))] ∧ H = hOf [(0, pRow bq q info), (3, ⟨true, b3, 0, 22, (key).map u8V, 0⟩), (8, ⟨true, b8, 0, 5, (oK key info i).map u8V, c8 - (oK key info i).length⟩), (9, ⟨true, b9, 0, 22, ((tK key info i)).map u8V, 0⟩)] ∧ 32 * i < n + 32 ∧ (0 < c8 → A8 = some ⟨b8, 0, none⟩) ∧ (oK key info i).length ≤ c8 ∧ (0 < (tK key info i).length → A9 = some ⟨b9, 0, none⟩)) ?_ ?_
 ·
  intro Kc0 hKc0
  refine At.to [(1, _), (2, _), (3, _), (8, _), (9, _), (10, _)] [(0, _), (3, _), (8, ⟨true, 0, 0, 5, (oK key info 0).map u8V, 0 - (oK key info 0).length⟩), (9, ⟨true, 0, 0, 22, (tK key info 0).map u8V, 0⟩)] (AllL.cons_ (rfl) (AllL.cons_ (rfl) (AllL.cons_ (rfl) (AllL.cons_ (rfl) (AllL.cons_ (rfl) (AllL.cons_ (rfl) trivial)))))) (AllL.cons_ (rfl) (AllL.cons_ (rfl) (AllL.cons_ (rfl) (AllL.cons_ (rfl) trivial)))) ?_
  exact hKc0 _ _ _ ⟨0, 0, 0, 0, none, none, rfl, rfl, rfl, by omega, fun h => absurd h (by decide), by simp [oK], by simp [tK]⟩
 ·
  rintro m fr H ⟨i, b8, c8, b9, A8, A9, rfl, rfl, rfl, hi, hA8, hc8, hA9⟩ Kc0 hKc0
  refine At.seq ?_
  refine At.seq ?_
  refine At.region ?_
  refine At.p (some 18) (P_move rfl rfl) ?_
  refine At.p (some 19) (P_len_sl rfl rfl ⟨_, Tryd.underlying36⟩ rfl) ?_
  refine At.p (some 20) (P_move rfl rfl) ?_
  refine At.p (some 21) (P_cmp rfl rfl rfl rfl rfl rfl) ?_
  refine At.nil ?_
  refine At.next ?_
  refine At.cond rfl (fun h21 => ?_) (fun h21 => ?_)
  · -- cond 21 t
   have hol := oK_len key info i
   have hlt : 32 * i < n := by simp at h21; omega
   have htl := tK_len key info i
   have htl0 : (tK key info i).length ≤ 32 := by rw [htl]; split <;> omega
   have hB1 : (tK key info i ++ info).length = (tK key info i).length + info.length := by simp
   obtain ⟨B, hBe⟩ : ∃ z, z = (tK key info i ++ info ++ [BitVec.ofNat 8 (i + 1)]) := ⟨_, rfl⟩
   have hB2 : B.length = (tK key info i).length + info.length + 1 := by rw [hBe]; simp; omega
   have hml := macS_len key B
   have hT : tK key info (i + 1) = macS key B := by rw [tK, ← hBe]
   have htl1 : (tK key info (i + 1)).length = 32 := by rw [hT, hml]
   refine At.skip ?_
   refine At.next ?_
   refine At.seq ?_
   refine At.block ?_
   refine At.seq ?_
   refine At.eBrute (fun fr H => ∃ b11, fr = frOf [(1, .slice A info.length ca), (2, iV (n : Int)), (3, ptr b3 0), (8, .slice A8 (oK key info i).length c8), (10, u8V (BitVec.ofNat 8 (i + 1))), (11, ptr b11 0)] ∧ H = hOf [(0, pRow bq q info), (3, ⟨true, b3, 0, 22, (key).map u8V, 0⟩), (8, ⟨true, b8, 0, 5, (oK key info i).map u8V, c8 - (oK key info i).length⟩), (11, ⟨true, b11, 0, 22, (macS key B).map u8V, 0⟩)]) (by kernel_rfl) ?_ ?_
   ·
    intro Kb hKb
    refine At.eP 0 (some 24) (P_slice_arr1 rfl Tryd.underlying22 sz5 rfl rfl rfl rfl (by omega) (by omega) (by omega) (by omega)) (by kernel_rfl) (by kernel_rfl) ?_
    refine At.eP 1 (some 25) (P_move rfl rfl) (by kernel_rfl) (by kernel_rfl) ?_
    refine At.eP 2 (some 26) (P_move rfl rfl) (by kernel_rfl) (by kernel_rfl) ?_
    refine At.eP 4 (some 28) (P_move rfl rfl) (by kernel_rfl) (by kernel_rfl) ?_
    refine At.eStep [3, 5, 8] (by kernel_rfl) (by simp) ?_
    refine ⟨?_, ?_, ?_⟩
    ·
     refine At.anyS (S_appendV (some 27) 27 ((tK key info i ++ info)) (f := u8V) (l := (tK key info i)) (L := info) rfl Tryd.underlying36 Tryd.underlying36 (.inr ⟨_, rfl⟩) sz5 by5 ze5 rfl rfl (Src.row (k := 9) (j := 0) rfl hA9 (fun _ => ⟨rfl, rfl, rfl⟩) (by simp [List.take_of_length_le]) (by simp)) (by omega) (Src.row (k := 0) (j := 0) rfl hA (fun _ => ⟨rfl, rfl, rfl⟩) (by simp [pRow, List.take_of_length_le]) (by simp)) (by omega) (by omega) rfl ?_)
     intro b27 c27 g27b
     refine At.eStep [5, 8] (by kernel_rfl) (by simp) ?_
     refine ⟨?_, ?_⟩
     ·
      refine At.anyS (S_buildSliceV (some 29) 29 ([BitVec.ofNat 8 (i + 1)].map u8V) rfl Tryd.underlying36 sz5 ze5 rfl rfl (by decide) (by decide) rfl rfl (fun b29 => ?_))
      refine At.eStep [6, 8] (by kernel_rfl) (by simp) ?_
      refine ⟨?_, ?_⟩
      ·
       refine At.anyS (S_appendM (some 30) 27 (B) (f := u8V) (l := (tK key info i ++ info)) (L := [BitVec.ofNat 8 (i + 1)]) rfl Tryd.underlying36 Tryd.underlying36 (.inr ⟨_, rfl⟩) sz5 by5 ze5 rfl rfl (fun h => ⟨rfl, rfl⟩) rfl (by omega) (Src.row (k := 29) (j := 0) rfl (fun _ => rfl) (fun _ => ⟨rfl, rfl, rfl⟩) rfl rfl) (fun _ => rfl) (by omega) (by omega) hBe.symm rfl ?_)
       intro A30 b30 c30 g30a g30b
       refine At.eStep [7, 8] (by kernel_rfl) (by simp) ?_
       refine ⟨?_, ?_⟩
       ·
        refine At.anyS (S_callV (some 31) [(3, _), (27, _)] [] (vs := [_, _]) rfl en43 rfl (VN (by simp) rfl View.all (VN (by simp) rfl View.all V0)) (by simp) (c_MacN (key := key) (b := B) (n := 32) (nb := B.length) hkey rfl (fun _ => rfl) (fun h => g30a (by omega)) (by decide) (by omega)) (by rintro _ _ ⟨rfl, rfl⟩; rfl) ?_)
        rintro _ _ ⟨rfl, rfl⟩
        refine At.eStep [8] (by kernel_rfl) (by simp) ?_
        refine At.anyS (S_alloc (some 11) 11 (zs := (List.replicate 32 0#8).map u8V) rfl ze22 rfl (fun b11 => ?_))
        refine At.eStep [9] (by kernel_rfl) (by simp) ?_
        refine At.anyS (S_storeA none (k := 11) (vs := _) rfl rfl rfl (by first | (rw [sz22]; simp <;> omega) | exact sz22) rfl WA WB rfl WC ?_)
        refine At.eEnd (by kernel_rfl) ?_
        refine At.next ?_
        refine At.to [(1, _), (2, _), (3, _), (8, _), (10, _), (11, _)] [(0, _), (3, _), (8, _), (11, _)] (AllL.cons_ (rfl) (AllL.cons_ (rfl) (AllL.cons_ (rfl) (AllL.cons_ (rfl) (AllL.cons_ (rfl) (AllL.cons_ (rfl) trivial)))))) (AllL.cons_ (rfl) (AllL.cons_ (rfl) (AllL.cons_ (rfl) (AllL.cons_ (rfl) trivial)))) ?_
        exact hKb _ _ ⟨b11, rfl, rfl⟩
       ·
        refine At.anyS (S_alloc (some 11) 11 (zs := (List.replicate 32 0#8).map u8V) rfl ze22 rfl (fun b11 => ?_))
        refine At.eStep [7] (by kernel_rfl) (by simp) ?_
        refine At.anyS (S_callV (some 31) [(3, _), (27, _)] [] (vs := [_, _]) rfl en43 rfl (VN (by simp) rfl View.all (VN (by simp) rfl View.all V0)) (by simp) (c_MacN (key := key) (b := B) (n := 32) (nb := B.length) hkey rfl (fun _ => rfl) (fun h => g30a (by omega)) (by decide) (by omega)) (by rintro _ _ ⟨rfl, rfl⟩; rfl) ?_)
        rintro _ _ ⟨rfl, rfl⟩
        refine At.eStep [9] (by kernel_rfl) (by simp) ?_
        refine At.anyS (S_storeA none (k := 11) (vs := _) rfl rfl rfl (by first | (rw [sz22]; simp <;> omega) | exact sz22) rfl WA WB rfl WC ?_)
        refine At.eEnd (by kernel_rfl) ?_
        refine At.next ?_
        refine At.to [(1, _), (2, _), (3, _), (8, _), (10, _), (11, _)] [(0, _), (3, _), (8, _), (11, _)] (AllL.cons_ (rfl) (AllL.cons_ (rfl) (AllL.cons_ (rfl) (AllL.cons_ (rfl) (AllL.cons_ (rfl) (AllL.cons_ (rfl) trivial)))))) (AllL.cons_ (rfl) (AllL.cons_ (rfl) (AllL.cons_ (rfl) (AllL.cons_ (rfl) trivial)))) ?_
        exact hKb _ _ ⟨b11, rfl, rfl⟩
      ·
       refine At.anyS (S_alloc (some 11) 11 (zs := (List.replicate 32 0#8).map u8V) rfl ze22 rfl (fun b11 => ?_))
       refine At.eStep [6] (by kernel_rfl) (by simp) ?_
       refine At.anyS (S_appendM (some 30) 27 (B) (f := u8V) (l := (tK key info i ++ info)) (L := [BitVec.ofNat 8 (i + 1)]) rfl Tryd.underlying36 Tryd.underlying36 (.inr ⟨_, rfl⟩) sz5 by5 ze5 rfl rfl (fun h => ⟨rfl, rfl⟩) rfl (by omega) (Src.row (k := 29) (j := 0) rfl (fun _ => rfl) (fun _ => ⟨rfl, rfl, rfl⟩) rfl rfl) (fun _ => rfl) (by omega) (by omega) hBe.symm rfl ?_)
       intro A30 b30 c30 g30a g30b
       refine At.eStep [7] (by kernel_rfl) (by simp) ?_
       refine At.anyS (S_callV (some 31) [(3, _), (27, _)] [] (vs := [_, _]) rfl en43 rfl (VN (by simp) rfl View.all (VN (by simp) rfl View.all V0)) (by simp) (c_MacN (key := key) (b := B) (n := 32) (nb := B.length) hkey rfl (fun _ => rfl) (fun h => g30a (by omega)) (by decide) (by omega)) (by rintro _ _ ⟨rfl, rfl⟩; rfl) ?_)
       rintro _ _ ⟨rfl, rfl⟩
       refine At.eStep [9] (by kernel_rfl) (by simp) ?_
       refine At.anyS (S_storeA none (k := 11) (vs := _) rfl rfl rfl (by first | (rw [sz22]; simp <;> omega) | exact sz22) rfl WA WB rfl WC ?_)
       refine At.eEnd (by kernel_rfl) ?_
       refine At.next ?_
       refine At.to [(1, _), (2, _), (3, _), (8, _), (10, _), (11, _)] [(0, _), (3, _), (8, _), (11, _)] (AllL.cons_ (rfl) (AllL.cons_ (rfl) (AllL.cons_ (rfl) (AllL.cons_ (rfl) (AllL.cons_ (rfl) (AllL.cons_ (rfl) trivial)))))) (AllL.cons_ (rfl) (AllL.cons_ (rfl) (AllL.cons_ (rfl) (AllL.cons_ (rfl) trivial)))) ?_
       exact hKb _ _ ⟨b11, rfl, rfl⟩
     ·
      refine At.anyS (S_alloc (some 11) 11 (zs := (List.replicate 32 0#8).map u8V) rfl ze22 rfl (fun b11 => ?_))
      refine At.eStep [5] (by kernel_rfl) (by simp) ?_
      refine At.anyS (S_buildSliceV (some 29) 29 ([BitVec.ofNat 8 (i + 1)].map u8V) rfl Tryd.underlying36 sz5 ze5 rfl rfl (by decide) (by decide) rfl rfl (fun b29 => ?_))
      refine At.eStep [6] (by kernel_rfl) (by simp) ?_
      refine At.anyS (S_appendM (some 30) 27 (B) (f := u8V) (l := (tK key info i ++ info)) (L := [BitVec.ofNat 8 (i + 1)]) rfl Tryd.underlying36 Tryd.underlying36 (.inr ⟨_, rfl⟩) sz5 by5 ze5 rfl rfl (fun h => ⟨rfl, rfl⟩) rfl (by omega) (Src.row (k := 29) (j := 0) rfl (fun _ => rfl) (fun _ => ⟨rfl, rfl, rfl⟩) rfl rfl) (fun _ => rfl) (by omega) (by omega) hBe.symm rfl ?_)
      intro A30 b30 c30 g30a g30b
      refine At.eStep [7] (by kernel_rfl) (by simp) ?_
      refine At.anyS (S_callV (some 31) [(3, _), (27, _)] [] (vs := [_, _]) rfl en43 rfl (VN (by simp) rfl View.all (VN (by simp) rfl View.all V0)) (by simp) (c_MacN (key := key) (b := B) (n := 32) (nb := B.length) hkey rfl (fun _ => rfl) (fun h => g30a (by omega)) (by decide) (by omega)) (by rintro _ _ ⟨rfl, rfl⟩; rfl) ?_)
      rintro _ _ ⟨rfl, rfl⟩
      refine At.eStep [9] (by kernel_rfl) (by simp) ?_
      refine At.anyS (S_storeA none (k := 11) (vs := _) rfl rfl rfl (by first | (rw [sz22]; simp <;> omega) | exact sz22) rfl WA WB rfl WC ?_)
      refine At.eEnd (by kernel_rfl) ?_
      refine At.next ?_
      refine At.to [(1, _), (2, _), (3, _), (8, _), (10, _), (11, _)] [(0, _), (3, _), (8, _), (11, _)] (AllL.cons_ (rfl) (AllL.cons_ (rfl) (AllL.cons_ (rfl) (AllL.cons_ (rfl) (AllL.cons_ (rfl) (AllL.cons_ (rfl) trivial)))))) (AllL.cons_ (rfl) (AllL.cons_ (rfl) (AllL.cons_ (rfl) (AllL.cons_ (rfl) trivial)))) ?_
      exact hKb _ _ ⟨b11, rfl, rfl⟩
    ·
     refine At.anyS (S_buildSliceV (some 29) 29 ([BitVec.ofNat 8 (i + 1)].map u8V) rfl Tryd.underlying36 sz5 ze5 rfl rfl (by decide) (by decide) rfl rfl (fun b29 => ?_))
     refine At.eStep [3, 8] (by kernel_rfl) (by simp) ?_
     refine ⟨?_, ?_⟩
     ·
      refine At.anyS (S_appendV (some 27) 27 ((tK key info i ++ info)) (f := u8V) (l := (tK key info i)) (L := info) rfl Tryd.underlying36 Tryd.underlying36 (.inr ⟨_, rfl⟩) sz5 by5 ze5 rfl rfl (Src.row (k := 9) (j := 0) rfl hA9 (fun _ => ⟨rfl, rfl, rfl⟩) (by simp [List.take_of_length_le]) (by simp)) (by omega) (Src.row (k := 0) (j := 0) rfl hA (fun _ => ⟨rfl, rfl, rfl⟩) (by simp [pRow, List.take_of_length_le]) (by simp)) (by omega) (by omega) rfl ?_)
      intro b27 c27 g27b
      refine At.eStep [6, 8] (by kernel_rfl) (by simp) ?_
      refine ⟨?_, ?_⟩
      ·
       refine At.anyS (S_appendM (some 30) 27 (B) (f := u8V) (l := (tK key info i ++ info)) (L := [BitVec.ofNat 8 (i + 1)]) rfl Tryd.underlying36 Tryd.underlying36 (.inr ⟨_, rfl⟩) sz5 by5 ze5 rfl rfl (fun h => ⟨rfl, rfl⟩) rfl (by omega) (Src.row (k := 29) (j := 0) rfl (fun _ => rfl) (fun _ => ⟨rfl, rfl, rfl⟩) rfl rfl) (fun _ => rfl) (by omega) (by omega) hBe.symm rfl ?_)
       intro A30 b30 c30 g30a g30b
       refine At.eStep [7, 8] (by kernel_rfl) (by simp) ?_
       refine ⟨?_, ?_⟩
       ·
        refine At.anyS (S_callV (some 31) [(3, _), (27, _)] [] (vs := [_, _]) rfl en43 rfl (VN (by simp) rfl View.all (VN (by simp) rfl View.all V0)) (by simp) (c_MacN (key := key) (b := B) (n := 32) (nb := B.length) hkey rfl (fun _ => rfl) (fun h => g30a (by omega)) (by decide) (by omega)) (by rintro _ _ ⟨rfl, rfl⟩; rfl) ?_)
        rintro _ _ ⟨rfl, rfl⟩
        refine At.eStep [8] (by kernel_rfl) (by simp) ?_
        refine At.anyS (S_alloc (some 11) 11 (zs := (List.replicate 32 0#8).map u8V) rfl ze22 rfl (fun b11 => ?_))
        refine At.eStep [9] (by kernel_rfl) (by simp) ?_
        refine At.anyS (S_storeA none (k := 11) (vs := _) rfl rfl rfl (by first | (rw [sz22]; simp <;> omega) | exact sz22) rfl WA WB rfl WC ?_)
        refine At.eEnd (by kernel_rfl) ?_
        refine At.next ?_
        refine At.to [(1, _), (2, _), (3, _), (8, _), (10, _), (11, _)] [(0, _), (3, _), (8, _), (11, _)] (AllL.cons_ (rfl) (AllL.cons_ (rfl) (AllL.cons_ (rfl) (AllL.cons_ (rfl) (AllL.cons_ (rfl) (AllL.cons_ (rfl) trivial)))))) (AllL.cons_ (rfl) (AllL.cons_ (rfl) (AllL.cons_ (rfl) (AllL.cons_ (rfl) trivial)))) ?_
        exact hKb _ _ ⟨b11, rfl, rfl⟩
       ·
        refine At.anyS (S_alloc (some 11) 11 (zs := (List.replicate 32 0#8).map u8V) rfl ze22 rfl (fun b11 => ?_))
        refine At.eStep [7] (by kernel_rfl) (by simp) ?_
        refine At.anyS (S_callV (some 31) [(3, _), (27, _)] [] (vs := [_, _]) rfl en43 rfl (VN (by simp) rfl View.all (VN (by simp) rfl View.all V0)) (by simp) (c_MacN (key := key) (b := B) (n := 32) (nb := B.length) hkey rfl (fun _ => rfl) (fun h => g30a (by omega)) (by decide) (by omega)) (by rintro _ _ ⟨rfl, rfl⟩; rfl) ?_)
        rintro _ _ ⟨rfl, rfl⟩
        refine At.eStep [9] (by kernel_rfl) (by simp) ?_
        refine At.anyS (S_storeA none (k := 11) (vs := _) rfl rfl rfl (by first | (rw [sz22]; simp <;> omega) | exact sz22) rfl WA WB rfl WC ?_)
        refine At.eEnd (by kernel_rfl) ?_
        refine At.next ?_
        refine At.to [(1, _), (2, _), (3, _), (8, _), (10, _), (11, _)] [(0, _), (3, _), (8, _), (11, _)] (AllL.cons_ (rfl) (AllL.cons_ (rfl) (AllL.cons_ (rfl) (AllL.cons_ (rfl) (AllL.cons_ (rfl) (AllL.cons_ (rfl) trivial)))))) (AllL.cons_ (rfl) (AllL.cons_ (rfl) (AllL.cons_ (rfl) (AllL.cons_ (rfl) trivial)))) ?_
        exact hKb _ _ ⟨b11, rfl, rfl⟩
      ·
       refine At.anyS (S_alloc (some 11) 11 (zs := (List.replicate 32 0#8).map u8V) rfl ze22 rfl (fun b11 => ?_))
       refine At.eStep [6] (by kernel_rfl) (by simp) ?_
       refine At.anyS (S_appendM (some 30) 27 (B) (f := u8V) (l := (tK key info i ++ info)) (L := [BitVec.ofNat 8 (i + 1)]) rfl Tryd.underlying36 Tryd.underlying36 (.inr ⟨_, rfl⟩) sz5 by5 ze5 rfl rfl (fun h => ⟨rfl, rfl⟩) rfl (by omega) (Src.row (k := 29) (j := 0) rfl (fun _ => rfl) (fun _ => ⟨rfl, rfl, rfl⟩) rfl rfl) (fun _ => rfl) (by omega) (by omega) hBe.symm rfl ?_)
       intro A30 b30 c30 g30a g30b
       refine At.eStep [7] (by kernel_rfl) (by simp) ?_
       refine At.anyS (S_callV (some 31) [(3, _), (27, _)] [] (vs := [_, _]) rfl en43 rfl (VN (by simp) rfl View.all (VN (by simp) rfl View.all V0)) (by simp) (c_MacN (key := key) (b := B) (n := 32) (nb := B.length) hkey rfl (fun _ => rfl) (fun h => g30a (by omega)) (by decide) (by omega)) (by rintro _ _ ⟨rfl, rfl⟩; rfl) ?_)
       rintro _ _ ⟨rfl, rfl⟩
       refine At.eStep [9] (by kernel_rfl) (by simp) ?_
       refine At.anyS (S_storeA none (k := 11) (vs := _) rfl rfl rfl (by first | (rw [sz22]; simp <;> omega) | exact sz22) rfl WA WB rfl WC ?_)
       refine At.eEnd (by kernel_rfl) ?_
       refine At.next ?_
       refine At.to [(1, _), (2, _), (3, _), (8, _), (10, _), (11, _)] [(0, _), (3, _), (8, _), (11, _)] (AllL.cons_ (rfl) (AllL.cons_ (rfl) (AllL.cons_ (rfl) (AllL.cons_ (rfl) (AllL.cons_ (rfl) (AllL.cons_ (rfl) trivial)))))) (AllL.cons_ (rfl) (AllL.cons_ (rfl) (AllL.cons_ (rfl) (AllL.cons_ (rfl) trivial)))) ?_
       exact hKb _ _ ⟨b11, rfl, rfl⟩
     ·
      refine At.anyS (S_alloc (some 11) 11 (zs := (List.replicate 32 0#8).map u8V) rfl ze22 rfl (fun b11 => ?_))
      refine At.eStep [3] (by kernel_rfl) (by simp) ?_
      refine At.anyS (S_appendV (some 27) 27 ((tK key info i ++ info)) (f := u8V) (l := (tK key info i)) (L := info) rfl Tryd.underlying36 Tryd.underlying36 (.inr ⟨_, rfl⟩) sz5 by5 ze5 rfl rfl (Src.row (k := 9) (j := 0) rfl hA9 (fun _ => ⟨rfl, rfl, rfl⟩) (by simp [List.take_of_length_le]) (by simp)) (by omega) (Src.row (k := 0) (j := 0) rfl hA (fun _ => ⟨rfl, rfl, rfl⟩) (by simp [pRow, List.take_of_length_le]) (by simp)) (by omega) (by omega) rfl ?_)
      intro b27 c27 g27b
      refine At.eStep [6] (by kernel_rfl) (by simp) ?_
      refine At.anyS (S_appendM (some 30) 27 (B) (f := u8V) (l := (tK key info i ++ info)) (L := [BitVec.ofNat 8 (i + 1)]) rfl Tryd.underlying36 Tryd.underlying36 (.inr ⟨_, rfl⟩) sz5 by5 ze5 rfl rfl (fun h => ⟨rfl, rfl⟩) rfl (by omega) (Src.row (k := 29) (j := 0) rfl (fun _ => rfl) (fun _ => ⟨rfl, rfl, rfl⟩) rfl rfl) (fun _ => rfl) (by omega) (by omega) hBe.symm rfl ?_)
      intro A30 b30 c30 g30a g30b
      refine At.eStep [7] (by kernel_rfl) (by simp) ?_
      refine At.anyS (S_callV (some 31) [(3, _), (27, _)] [] (vs := [_, _]) rfl en43 rfl (VN (by simp) rfl View.all (VN (by simp) rfl View.all V0)) (by simp) (c_MacN (key := key) (b := B) (n := 32) (nb := B.length) hkey rfl (fun _ => rfl) (fun h => g30a (by omega)) (by decide) (by omega)) (by rintro _ _ ⟨rfl, rfl⟩; rfl) ?_)
      rintro _ _ ⟨rfl, rfl⟩
      refine At.eStep [9] (by kernel_rfl) (by simp) ?_
      refine At.anyS (S_storeA none (k := 11) (vs := _) rfl rfl rfl (by first | (rw [sz22]; simp <;> omega) | exact sz22) rfl WA WB rfl WC ?_)
      refine At.eEnd (by kernel_rfl) ?_
      refine At.next ?_
      refine At.to [(1, _), (2, _), (3, _), (8, _), (10, _), (11, _)] [(0, _), (3, _), (8, _), (11, _)] (AllL.cons_ (rfl) (AllL.cons_ (rfl) (AllL.cons_ (rfl) (AllL.cons_ (rfl) (AllL.cons_ (rfl) (AllL.cons_ (rfl) trivial)))))) (AllL.cons_ (rfl) (AllL.cons_ (rfl) (AllL.cons_ (rfl) (AllL.cons_ (rfl) trivial)))) ?_
      exact hKb _ _ ⟨b11, rfl, rfl⟩
    ·
     refine At.anyS (S_alloc (some 11) 11 (zs := (List.replicate 32 0#8).map u8V) rfl ze22 rfl (fun b11 => ?_))
     refine At.eStep [3, 5] (by kernel_rfl) (by simp) ?_
     refine ⟨?_, ?_⟩
     ·
      refine At.anyS (S_appendV (some 27) 27 ((tK key info i ++ info)) (f := u8V) (l := (tK key info i)) (L := info) rfl Tryd.underlying36 Tryd.underlying36 (.inr ⟨_, rfl⟩) sz5 by5 ze5 rfl rfl (Src.row (k := 9) (j := 0) rfl hA9 (fun _ => ⟨rfl, rfl, rfl⟩) (by simp [List.take_of_length_le]) (by simp)) (by omega) (Src.row (k := 0) (j := 0) rfl hA (fun _ => ⟨rfl, rfl, rfl⟩) (by simp [pRow, List.take_of_length_le]) (by simp)) (by omega) (by omega) rfl ?_)
      intro b27 c27 g27b
      refine At.eStep [5] (by kernel_rfl) (by simp) ?_
      refine At.anyS (S_buildSliceV (some 29) 29 ([BitVec.ofNat 8 (i + 1)].map u8V) rfl Tryd.underlying36 sz5 ze5 rfl rfl (by decide) (by decide) rfl rfl (fun b29 => ?_))
      refine At.eStep [6] (by kernel_rfl) (by simp) ?_
      refine At.anyS (S_appendM (some 30) 27 (B) (f := u8V) (l := (tK key info i ++ info)) (L := [BitVec.ofNat 8 (i + 1)]) rfl Tryd.underlying36 Tryd.underlying36 (.inr ⟨_, rfl⟩) sz5 by5 ze5 rfl rfl (fun h => ⟨rfl, rfl⟩) rfl (by omega) (Src.row (k := 29) (j := 0) rfl (fun _ => rfl) (fun _ => ⟨rfl, rfl, rfl⟩) rfl rfl) (fun _ => rfl) (by omega) (by omega) hBe.symm rfl ?_)
      intro A30 b30 c30 g30a g30b
      refine At.eStep [7] (by kernel_rfl) (by simp) ?_
      refine At.anyS (S_callV (some 31) [(3, _), (27, _)] [] (vs := [_, _]) rfl en43 rfl (VN (by simp) rfl View.all (VN (by simp) rfl View.all V0)) (by simp) (c_MacN (key := key) (b := B) (n := 32) (nb := B.length) hkey rfl (fun _ => rfl) (fun h => g30a (by omega)) (by decide) (by omega)) (by rintro _ _ ⟨rfl, rfl⟩; rfl) ?_)
      rintro _ _ ⟨rfl, rfl⟩
      refine At.eStep [9] (by kernel_rfl) (by simp) ?_
      refine At.anyS (S_storeA none (k := 11) (vs := _) rfl rfl rfl (by first | (rw [sz22]; simp <;> omega) | exact sz22) rfl WA WB rfl WC ?_)
      refine At.eEnd (by kernel_rfl) ?_
      refine At.next ?_
      refine At.to [(1, _), (2, _), (3, _), (8, _), (10, _), (11, _)] [(0, _), (3, _), (8, _), (11, _)] (AllL.cons_ (rfl) (AllL.cons_ (rfl) (AllL.cons_ (rfl) (AllL.cons_ (rfl) (AllL.cons_ (rfl) (AllL.cons_ (rfl) trivial)))))) (AllL.cons_ (rfl) (AllL.cons_ (rfl) (AllL.cons_ (rfl) (AllL.cons_ (rfl) trivial)))) ?_
      exact hKb _ _ ⟨b11, rfl, rfl⟩
     ·
      refine At.anyS (S_buildSliceV (some 29) 29 ([BitVec.ofNat 8 (i + 1)].map u8V) rfl Tryd.underlying36 sz5 ze5 rfl rfl (by decide) (by decide) rfl rfl (fun b29 => ?_))
      refine At.eStep [3] (by kernel_rfl) (by simp) ?_
      refine At.anyS (S_appendV (some 27) 27 ((tK key info i ++ info)) (f := u8V) (l := (tK key info i)) (L := info) rfl Tryd.underlying36 Tryd.underlying36 (.inr ⟨_, rfl⟩) sz5 by5 ze5 rfl rfl (Src.row (k := 9) (j := 0) rfl hA9 (fun _ => ⟨rfl, rfl, rfl⟩) (by simp [List.take_of_length_le]) (by simp)) (by omega) (Src.row (k := 0) (j := 0) rfl hA (fun _ => ⟨rfl, rfl, rfl⟩) (by simp [pRow, List.take_of_length_le]) (by simp)) (by omega) (by omega) rfl ?_)
      intro b27 c27 g27b
      refine At.eStep [6] (by kernel_rfl) (by simp) ?_
      refine At.anyS (S_appendM (some 30) 27 (B) (f := u8V) (l := (tK key info i ++ info)) (L := [BitVec.ofNat 8 (i + 1)]) rfl Tryd.underlying36 Tryd.underlying36 (.inr ⟨_, rfl⟩) sz5 by5 ze5 rfl rfl (fun h => ⟨rfl, rfl⟩) rfl (by omega) (Src.row (k := 29) (j := 0) rfl (fun _ => rfl) (fun _ => ⟨rfl, rfl, rfl⟩) rfl rfl) (fun _ => rfl) (by omega) (by omega) hBe.symm rfl ?_)
      intro A30 b30 c30 g30a g30b
      refine At.eStep [7] (by kernel_rfl) (by simp) ?_
      refine At.anyS (S_callV (some 31) [(3, _), (27, _)] [] (vs := [_, _]) rfl en43 rfl (VN (by simp) rfl View.all (VN (by simp) rfl View.all V0)) (by simp) (c_MacN (key := key) (b := B) (n := 32) (nb := B.length) hkey rfl (fun _ => rfl) (fun h => g30a (by omega)) (by decide) (by omega)) (by rintro _ _ ⟨rfl, rfl⟩; rfl) ?_)
      rintro _ _ ⟨rfl, rfl⟩
      refine At.eStep [9] (by kernel_rfl) (by simp) ?_
      refine At.anyS (S_storeA none (k := 11) (vs := _) rfl rfl rfl (by first | (rw [sz22]; simp <;> omega) | exact sz22) rfl WA WB rfl WC ?_)
      refine At.eEnd (by kernel_rfl) ?_
      refine At.next ?_
      refine At.to [(1, _), (2, _), (3, _), (8, _), (10, _), (11, _)] [(0, _), (3, _), (8, _), (11, _)] (AllL.cons_ (rfl) (AllL.cons_ (rfl) (AllL.cons_ (rfl) (AllL.cons_ (rfl) (AllL.cons_ (rfl) (AllL.cons_ (rfl) trivial)))))) (AllL.cons_ (rfl) (AllL.cons_ (rfl) (AllL.cons_ (rfl) (AllL.cons_ (rfl) trivial)))) ?_
      exact hKb _ _ ⟨b11, rfl, rfl⟩
   ·
    rintro fr H ⟨b11, rfl, rfl⟩
    refine At.next ?_
    refine At.seq ?_
    rw [← hT]
    refine At.swap 9 11 ?_
    refine At.region ?_
    refine At.p (some 32) (P_slice_arr1 rfl Tryd.underlying22 sz5 rfl rfl rfl rfl (by omega) (by omega) (by omega) (by omega)) ?_
    refine At.p (some 9) (P_assign rfl rfl) ?_
    refine At.nil ?_
    refine At.next ?_
    refine At.region ?_
    refine At.p (some 33) (P_move rfl rfl) ?_
    refine At.p (some 34) (P_move rfl rfl) ?_
    refine At.s (S_appendM (some 35) 8 (oK key info (i + 1)) (f := u8V) (l := oK key info i) (L := tK key info (i + 1)) rfl Tryd.underlying36 Tryd.underlying36 (.inr ⟨_, rfl⟩) sz5 by5 ze5 rfl rfl (fun h => ⟨hA8 h, rfl⟩) rfl (by omega) (Src.row (k := 9) (j := 0) rfl (fun _ => rfl) (fun _ => ⟨rfl, rfl, rfl⟩) (by rw [List.drop_zero, List.take_of_length_le (by rw [List.length_map, htl1]; decide)]) (by rw [List.length_map, htl1])) (fun _ => rfl) (by omega) (by omega) rfl htl1 ?_)
    intro A8 b8 c8 g1 g2
    refine At.p (some 8) (P_assign rfl rfl) ?_
    refine At.nil ?_
    refine At.inb_n ?_
    refine At.next ?_
    refine At.region ?_
    refine At.p (some 22) (P_move rfl rfl) ?_
    refine At.p (some 23) (P_add_w UK.u8 (b := 1#8) rfl rfl rfl) ?_
    refine At.p (some 10) (P_assign rfl rfl) ?_
    refine At.nil ?_
    refine At.next ?_
    refine At.to [(1, _), (2, _), (3, _), (8, _), (9, .slice (some ⟨b11, 0, none⟩) (tK key info (i + 1)).length (tK key info (i + 1)).length), (10, u8V (BitVec.ofNat 8 (i + 1 + 1)))] [(0, _), (3, _), (8, _), (9, ⟨true, b11, 0, 22, (tK key info (i + 1)).map u8V, 0⟩)] (AllL.cons_ (rfl) (AllL.cons_ (rfl) (AllL.cons_ (rfl) (AllL.cons_ (rfl) (AllL.cons_ (by rw [tK_len, if_neg (by omega)]; rfl) (AllL.cons_ (congrArg (fun z => some (u8V z)) (BitVec.ofNat_add (i + 1) 1).symm) trivial)))))) (AllL.cons_ (rfl) (AllL.cons_ (rfl) (AllL.cons_ (rfl) (AllL.cons_ (rfl) trivial)))) ?_
    exact hKc0 _ _ _ (by omega) ⟨i + 1, _, _, b11, _, some ⟨b11, 0, none⟩, rfl, rfl, rfl, by omega, g1, g2, fun _ => rfl⟩
  · -- cond 21 f
   have hol := oK_len key info i
   have hge : n ≤ 32 * i := by simp at h21; omega
   refine At.exit ?_
   refine At.thn_e ?_
   refine At.thn_e ?_
   refine At.inb_hit ?_
   refine At.next ?_
   refine At.seq ?_
   refine At.region ?_
   refine At.p (some 36) (P_move rfl rfl) ?_
   refine At.p (some 37) (P_move rfl rfl) ?_
   refine At.p (some 38) (P_move rfl rfl) ?_
   refine At.p (some 39) (P_slice_sl (h := n) (m := n) rfl Tryd.underlying36 sz5 rfl rfl ⟨_, _, rfl, by omega⟩ ⟨_, _, rfl, by omega⟩ (by omega) (by omega) (by omega)) ?_
   refine At.p (some 6) (P_assign rfl rfl) ?_
   refine At.p (some 7) (P_assign rfl rfl) ?_
   refine At.nil ?_
   refine At.next ?_
   refine At.ret ?_
   refine At.give (.inl rfl) [8] (rows' := [_]) (vs := [_, _]) rfl ⟨rfl, rfl, trivial⟩ rfl (by simp) (by simp) ⟨_, b8, _, _, (oK key info i).drop n, fun h => cut_zero (hA8 (by omega)), Nat.le_refl _, rfl, by rw [← oK_split key info hge hi]⟩

theorem c_Expand {key info : List (BitVec 8)} {ni : Nat} (n : Nat) {A : Option Addr} {ca bq q : Nat} (hni : info.length = ni) (hkey : key.length = 32) (hn : n ≤ 8160) (hA : 0 < ni → A = some ⟨bq, q, none⟩) (hl : ni ≤ 100000) :
  Con Tryd.prog 32 [aggK key, .slice A ni ca, iV (n : Int)] [pRow bq q info] (fun v rs => ∃ A b c r more, (0 < n → A = some ⟨b, 0, none⟩) ∧ n ≤ c ∧ v = .tuple #[.slice A n c, iV 0] ∧ rs = [⟨true, b, 0, 5, (expS key info n ++ more).map u8V, r⟩]) := by
 subst hni
 by_cases h : info = []
 · exact c_Expand0 key info n A ca bq q hkey hn hA h hl
 · exact c_Expand1 key info n A ca bq q hkey hn hA (List.length_pos_iff.2 h) hl

def tls : List (BitVec 8) := [116#8, 108#8, 115#8, 49#8, 51#8, 32#8]
def infS (n : Nat) (lb cx : List (BitVec 8)) : List (BitVec 8) := [BitVec.ofNat 8 (n / 256), BitVec.ofNat 8 n, BitVec.ofNat 8 (lb.length + 6)] ++ (tls ++ lb) ++ [BitVec.ofNat 8 cx.length] ++ cx
theorem infS_len (n : Nat) (lb cx : List (BitVec 8)) : (infS n lb cx).length = lb.length + cx.length + 10 := by
 simp [infS, tls]
 omega
def labS (key lb cx : List (BitVec 8)) (n : Nat) : List (BitVec 8) := expS key (infS n lb cx) n
theorem labS_len (key lb cx : List (BitVec 8)) (n : Nat) : (labS key lb cx n).length = n := expS_len _ _ _
theorem by8 {z : Int} {m : Nat} (h : z = (m : Int)) : BitVec.ofInt 8 z = BitVec.ofNat 8 m := by
 subst h
 exact BitVec.ofInt_natCast _ _

set_option maxHeartbeats 1000000 in
theorem c_Label_ (key lb cx : List (BitVec 8)) (n : Nat) (A : Option Addr) (ca bq q : Nat) (hkey : key.length = 32) (hn : n ≤ 8160) (hl1 : 0 < lb.length) (hl2 : lb.length ≤ 249) (hcx : cx.length ≤ 255) (hA : 0 < cx.length → A = some ⟨bq, q, none⟩) :
  Con Tryd.prog 21 [aggK key, strV lb, .slice A cx.length ca, iV (n : Int)] [pRow bq q cx] (fun v rs => ∃ A b c r more, (0 < n → A = some ⟨b, 0, none⟩) ∧ n ≤ c ∧ v = .tuple #[.slice A n c, iV 0] ∧ rs = [⟨true, b, 0, 5, (labS key lb cx n ++ more).map u8V, r⟩]) := by
 refine Con.enter Tryd.func21 Tryd.ntmps21 (Nat.le_of_ble_eq_true rfl) rfl fun w => ?_
 refine At.seq ?_
 have hk32 : key.length = 32 := hkey
 have hil := infS_len n lb cx
 have htl6 : tls.length = 6 := rfl
 refine At.region ?_
 refine At.s (S_box (some 4) 4 (zs := key.map u8V) rfl rfl rfl (fun b4 => ?_))
 refine At.p (some 8) (P_assign rfl rfl) ?_
 refine At.p (some 9) (P_assign rfl rfl) ?_
 refine At.nil ?_
 refine At.next ?_
 refine At.seq ?_
 refine At.seq ?_
 refine At.region ?_
 refine At.p (some 11) (P_move rfl rfl) ?_
 refine At.p (some 12) (P_cmp rfl rfl rfl rfl rfl rfl) ?_
 refine At.p (some 13) (P_move rfl rfl) ?_
 refine At.gy (t := 13) rfl (by simp) rfl rfl ?_
 refine At.p (some 14) (P_move rfl rfl) ?_
 refine At.gy (t := 13) rfl (by simp) rfl rfl ?_
 refine At.p (some 15) (P_cmp rfl rfl rfl rfl rfl rfl) ?_
 refine At.p (some 16) (P_pick_f rfl rfl (by simp) rfl) ?_
 refine At.p (some 17) (P_move rfl rfl) ?_
 refine At.gy (t := 17) rfl (by simp; omega) rfl rfl ?_
 refine At.p (some 18) (P_move rfl rfl) ?_
 refine At.gy (t := 17) rfl (by simp; omega) rfl rfl ?_
 refine At.p (some 19) (P_eql_str (b := []) rfl rfl rfl) ?_
 refine At.p (some 20) (P_pick_f rfl rfl (by simp; omega) rfl) ?_
 refine At.p (some 21) (P_move rfl rfl) ?_
 refine At.gy (t := 21) rfl (by simp; exact List.ne_nil_of_length_pos hl1) rfl rfl ?_
 refine At.p (some 22) (P_move rfl rfl) ?_
 refine At.gy (t := 21) rfl (by simp; exact List.ne_nil_of_length_pos hl1) rfl rfl ?_
 refine At.p (some 23) (P_len_strV rfl rfl Tryd.underlying9 rfl) ?_
 refine At.gy (t := 21) rfl (by simp; exact List.ne_nil_of_length_pos hl1) rfl rfl ?_
 refine At.p (some 24) (P_cmp rfl rfl rfl rfl rfl rfl) ?_
 refine At.p (some 25) (P_pick_f rfl rfl (by simp; exact List.ne_nil_of_length_pos hl1) rfl) ?_
 refine At.p (some 26) (P_move rfl rfl) ?_
 refine At.gy (t := 26) rfl (by simp; omega) rfl rfl ?_
 refine At.p (some 27) (P_move rfl rfl) ?_
 refine At.gy (t := 26) rfl (by simp; omega) rfl rfl ?_
 refine At.p (some 28) (P_len_sl rfl rfl ⟨_, Tryd.underlying36⟩ rfl) ?_
 refine At.gy (t := 26) rfl (by simp; omega) rfl rfl ?_
 refine At.p (some 29) (P_cmp rfl rfl rfl rfl rfl rfl) ?_
 refine At.p (some 30) (P_pick_f rfl rfl (by simp; omega) rfl) ?_
 refine At.nil ?_
 refine At.next ?_
 refine At.cond rfl (fun h30 => by simp at h30; omega) (fun h30 => ?_)
 refine At.skip ?_
 refine At.next ?_
 refine At.seq ?_
 refine At.region ?_
 refine At.p (some 31) (P_move rfl rfl) ?_
 refine At.p (some 32) (P_shr_i rfl rfl rfl (by first | decide | omega) (by first | decide | omega)) ?_
 refine At.p (some 33) (P_conv_iwE (b := BitVec.ofNat 8 (n / 256)) (by8 (by show (n : Int) / 256 = _; omega)) UK.u8 rfl Tryd.underlying3 Tryd.underlying5 rfl) ?_
 refine At.p (some 34) (P_move rfl rfl) ?_
 refine At.p (some 35) (P_conv_iwE (b := BitVec.ofNat 8 (n)) (by8 (rfl)) UK.u8 rfl Tryd.underlying3 Tryd.underlying5 rfl) ?_
 refine At.p (some 36) (P_move rfl rfl) ?_
 refine At.p (some 37) (P_len_strV rfl rfl Tryd.underlying9 rfl) ?_
 refine At.p (some 38) (P_add_i rfl rfl rfl (by omega)) ?_
 refine At.p (some 39) (P_conv_iwE (b := BitVec.ofNat 8 (lb.length + 6)) (by8 (by omega)) UK.u8 rfl Tryd.underlying3 Tryd.underlying5 rfl) ?_
 refine At.s (S_buildSliceV (some 40) 10 ([BitVec.ofNat 8 (n / 256), BitVec.ofNat 8 n, BitVec.ofNat 8 (lb.length + 6)].map u8V) rfl Tryd.underlying36 sz5 ze5 rfl rfl (by decide) (by decide) rfl ⟨rfl, rfl, rfl⟩ (fun b10 => ?_))
 refine At.p (some 10) (P_assign rfl rfl) ?_
 refine At.nil ?_
 refine At.next ?_
 refine At.seq ?_
 refine At.region ?_
 refine At.p (some 41) (P_move rfl rfl) ?_
 refine At.p (some 42) (P_move rfl rfl) ?_
 refine At.p (some 43) (P_add_str (a := tls) rfl rfl rfl (by simp [tls]; omega)) ?_
 refine At.s (S_appendM (some 44) 10 (([BitVec.ofNat 8 (n / 256), BitVec.ofNat 8 n, BitVec.ofNat 8 (lb.length + 6)] ++ (tls ++ lb))) (f := u8V) (l := [BitVec.ofNat 8 (n / 256), BitVec.ofNat 8 n, BitVec.ofNat 8 (lb.length + 6)]) (L := (tls ++ lb)) rfl Tryd.underlying36 Tryd.underlying9 (.inl rfl) sz5 by5 ze5 rfl rfl (fun h => ⟨rfl, rfl⟩) rfl rfl (Src.strV rfl) (fun _ => rfl) WD WD rfl rfl ?_)
 intro A44 b44 c44 g44a g44b
 refine At.p (some 10) (P_assign rfl rfl) ?_
 refine At.nil ?_
 refine At.next ?_
 refine At.seq ?_
 refine At.region ?_
 refine At.p (some 45) (P_move rfl rfl) ?_
 refine At.p (some 46) (P_move rfl rfl) ?_
 refine At.p (some 47) (P_len_sl rfl rfl ⟨_, Tryd.underlying36⟩ rfl) ?_
 refine At.p (some 48) (P_conv_iwE (b := BitVec.ofNat 8 (cx.length)) (by8 (by omega)) UK.u8 rfl Tryd.underlying3 Tryd.underlying5 rfl) ?_
 refine At.s (S_buildSliceV (some 49) 49 ([BitVec.ofNat 8 cx.length].map u8V) rfl Tryd.underlying36 sz5 ze5 rfl rfl (by decide) (by decide) rfl rfl (fun b49 => ?_))
 refine At.s (S_appendM (some 50) 10 (([BitVec.ofNat 8 (n / 256), BitVec.ofNat 8 n, BitVec.ofNat 8 (lb.length + 6)] ++ (tls ++ lb) ++ [BitVec.ofNat 8 cx.length])) (f := u8V) (l := ([BitVec.ofNat 8 (n / 256), BitVec.ofNat 8 n, BitVec.ofNat 8 (lb.length + 6)] ++ (tls ++ lb))) (L := [BitVec.ofNat 8 cx.length]) rfl Tryd.underlying36 Tryd.underlying36 (.inr ⟨_, rfl⟩) sz5 by5 ze5 rfl rfl (fun h => ⟨g44a h, rfl⟩) rfl (by omega) (Src.row (k := 49) (j := 0) rfl (fun _ => rfl) (fun _ => ⟨rfl, rfl, rfl⟩) rfl rfl) (fun _ => rfl) WD WD rfl rfl ?_)
 intro A50 b50 c50 g50a g50b
 refine At.p (some 10) (P_assign rfl rfl) ?_
 refine At.nil ?_
 refine At.next ?_
 refine At.seq ?_
 refine At.eBrute (fun fr H => ∃ (A60 : Option Addr) (b60 c60 r60 : Nat) (m60 : List (BitVec 8)), fr = frOf [(8, .slice A60 n c60), (9, iV 0)] ∧ H = hOf [(60, ⟨true, b60, 0, 5, (labS key lb cx n ++ m60).map u8V, r60⟩)] ∧ (0 < n → A60 = some ⟨b60, 0, none⟩) ∧ n ≤ c60) (by kernel_rfl) ?_ ?_
 ·
  intro Kb hKb
  refine At.eP 1 (some 52) (P_move rfl rfl) (by kernel_rfl) (by kernel_rfl) ?_
  refine At.eP 2 (some 53) (P_move rfl rfl) (by kernel_rfl) (by kernel_rfl) ?_
  refine At.eP 4 (some 55) (P_move rfl rfl) (by kernel_rfl) (by kernel_rfl) ?_
  refine At.eStep [0, 3] (by kernel_rfl) (by simp) ?_
  refine ⟨?_, ?_⟩
  ·
   refine At.anyQ (some 51) (Q_loadA (k := 4) rfl rfl Tryd.underlying22 rfl sz22 WD rfl) ?_
   refine At.eStep [3] (by kernel_rfl) (by simp) ?_
   refine At.anyS (S_appendM (some 54) 10 ((infS n lb cx)) (f := u8V) (l := ([BitVec.ofNat 8 (n / 256), BitVec.ofNat 8 n, BitVec.ofNat 8 (lb.length + 6)] ++ (tls ++ lb) ++ [BitVec.ofNat 8 cx.length])) (L := cx) rfl Tryd.underlying36 Tryd.underlying36 (.inr ⟨_, rfl⟩) sz5 by5 ze5 rfl rfl (fun h => ⟨g50a h, rfl⟩) rfl (by omega) (Src.row (k := 0) (j := 0) rfl hA (fun _ => ⟨rfl, rfl, rfl⟩) (by simp [pRow, List.take_of_length_le]) (by simp)) (fun _ => rfl) WD WD rfl rfl ?_)
   intro A54 b54 c54 g54a g54b
   refine At.eStep [5] (by kernel_rfl) (by simp) ?_
   refine At.anyS (S_callV (some 56) [(10, _)] [60] (vs := [_, _, _]) rfl en32 rfl (VN (by simp) rfl View.all V0) (by simp) (c_Expand (info := (infS n lb cx)) (ni := (infS n lb cx).length) n rfl hkey hn (fun h => g54a (by omega)) (by omega)) (by rintro _ _ ⟨A60, b60, c60, r60, m60, g60a, g60b, rfl, rfl⟩; rfl) ?_)
   rintro _ _ ⟨A60, b60, c60, r60, m60, g60a, g60b, rfl, rfl⟩
   refine At.eP 6 (some 57) (P_extract rfl rfl rfl) (by kernel_rfl) (by kernel_rfl) ?_
   refine At.eP 7 (some 58) (P_extract rfl rfl rfl) (by kernel_rfl) (by kernel_rfl) ?_
   refine At.eP 8 (some 8) (P_assign rfl rfl) (by kernel_rfl) (by kernel_rfl) ?_
   refine At.eP 9 (some 9) (P_assign rfl rfl) (by kernel_rfl) (by kernel_rfl) ?_
   refine At.eEnd (by kernel_rfl) ?_
   refine At.next ?_
   refine At.to [(8, _), (9, _)] [(60, _)] (AllL.cons_ (rfl) (AllL.cons_ (rfl) trivial)) (AllL.cons_ (rfl) trivial) ?_
   exact hKb _ _ ⟨_, _, _, _, _, rfl, rfl, g60a, g60b⟩
  ·
   refine At.anyS (S_appendM (some 54) 10 ((infS n lb cx)) (f := u8V) (l := ([BitVec.ofNat 8 (n / 256), BitVec.ofNat 8 n, BitVec.ofNat 8 (lb.length + 6)] ++ (tls ++ lb) ++ [BitVec.ofNat 8 cx.length])) (L := cx) rfl Tryd.underlying36 Tryd.underlying36 (.inr ⟨_, rfl⟩) sz5 by5 ze5 rfl rfl (fun h => ⟨g50a h, rfl⟩) rfl (by omega) (Src.row (k := 0) (j := 0) rfl hA (fun _ => ⟨rfl, rfl, rfl⟩) (by simp [pRow, List.take_of_length_le]) (by simp)) (fun _ => rfl) WD WD rfl rfl ?_)
   intro A54 b54 c54 g54a g54b
   refine At.eStep [0] (by kernel_rfl) (by simp) ?_
   refine At.anyQ (some 51) (Q_loadA (k := 4) rfl rfl Tryd.underlying22 rfl sz22 WD rfl) ?_
   refine At.eStep [5] (by kernel_rfl) (by simp) ?_
   refine At.anyS (S_callV (some 56) [(10, _)] [60] (vs := [_, _, _]) rfl en32 rfl (VN (by simp) rfl View.all V0) (by simp) (c_Expand (info := (infS n lb cx)) (ni := (infS n lb cx).length) n rfl hkey hn (fun h => g54a (by omega)) (by omega)) (by rintro _ _ ⟨A60, b60, c60, r60, m60, g60a, g60b, rfl, rfl⟩; rfl) ?_)
   rintro _ _ ⟨A60, b60, c60, r60, m60, g60a, g60b, rfl, rfl⟩
   refine At.eP 6 (some 57) (P_extract rfl rfl rfl) (by kernel_rfl) (by kernel_rfl) ?_
   refine At.eP 7 (some 58) (P_extract rfl rfl rfl) (by kernel_rfl) (by kernel_rfl) ?_
   refine At.eP 8 (some 8) (P_assign rfl rfl) (by kernel_rfl) (by kernel_rfl) ?_
   refine At.eP 9 (some 9) (P_assign rfl rfl) (by kernel_rfl) (by kernel_rfl) ?_
   refine At.eEnd (by kernel_rfl) ?_
   refine At.next ?_
   refine At.to [(8, _), (9, _)] [(60, _)] (AllL.cons_ (rfl) (AllL.cons_ (rfl) trivial)) (AllL.cons_ (rfl) trivial) ?_
   exact hKb _ _ ⟨_, _, _, _, _, rfl, rfl, g60a, g60b⟩
 ·
  rintro fr H ⟨A60, b60, c60, r60, m60, rfl, rfl, g60a, g60b⟩
  refine At.next ?_
  refine At.ret ?_
  refine At.give (.inl rfl) [60] (rows' := [_]) (vs := [_, _]) rfl ⟨rfl, rfl, trivial⟩ rfl (by simp) (by simp) ⟨A60, b60, c60, r60, m60, g60a, g60b, rfl, rfl⟩

theorem c_Label {key lb cx : List (BitVec 8)} {nc : Nat} (n : Nat) {A : Option Addr} {ca bq q : Nat} (hnc : cx.length = nc) (hkey : key.length = 32) (hn : n ≤ 8160) (hl1 : 0 < lb.length) (hl2 : lb.length ≤ 249) (hcx : nc ≤ 255) (hA : 0 < nc → A = some ⟨bq, q, none⟩) :
  Con Tryd.prog 21 [aggK key, strV lb, .slice A nc ca, iV (n : Int)] [pRow bq q cx] (fun v rs => ∃ A b c r more, (0 < n → A = some ⟨b, 0, none⟩) ∧ n ≤ c ∧ v = .tuple #[.slice A n c, iV 0] ∧ rs = [⟨true, b, 0, 5, (labS key lb cx n ++ more).map u8V, r⟩]) := by
 subst hnc
 exact c_Label_ key lb cx n A ca bq q hkey hn hl1 hl2 hcx hA


end Go.Proofs.YtcjfkmhijfcciaaDoor

