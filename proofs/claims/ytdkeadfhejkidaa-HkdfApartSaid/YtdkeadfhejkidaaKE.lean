import Derived.Test.YtdkeadfhejkidaaKC
import Derived.Test.YtdkeadfhejkidaaSE17
namespace Go.Proofs.Ytdkeadfhejkidaa
set_option maxRecDepth 20000
set_option linter.unusedVariables false
set_option linter.unusedSimpArgs false
open Go.SE Go.RowKit

def tls : List (BitVec 8) := [116#8, 108#8, 115#8, 49#8, 51#8, 32#8]
def infS (n : Nat) (lb cx : List (BitVec 8)) : List (BitVec 8) := [BitVec.ofNat 8 (n / 256), BitVec.ofNat 8 n, BitVec.ofNat 8 (lb.length + 6)] ++ (tls ++ lb) ++ [BitVec.ofNat 8 cx.length] ++ cx
theorem infS_len (n : Nat) (lb cx : List (BitVec 8)) : (infS n lb cx).length = lb.length + cx.length + 10 := by
  simp [infS, tls]
  omega
def labS (key lb cx : List (BitVec 8)) (n : Nat) : List (BitVec 8) := expS key (infS n lb cx) n
theorem labS_len (key lb cx : List (BitVec 8)) (n : Nat) : (labS key lb cx n).length = n := expS_len _ _ _
theorem by8 {z : Int} {m : Nat} (h : z = (m : Int)) : BitVec.ofInt 8 z = BitVec.ofNat 8 m := by
  subst h
  exact BitVec.ofInt_natCast _ _

set_option maxHeartbeats 1000000 in
theorem c_Label_ (key lb cx : List (BitVec 8)) (n : Nat) (A : Option Addr) (ca bq q : Nat) (hkey : key.length = 32) (hn : n ≤ 8160) (hl1 : 0 < lb.length) (hl2 : lb.length ≤ 249) (hcx : cx.length ≤ 255) (hA : 0 < cx.length → A = some ⟨bq, q, none⟩) :
    Con Try.prog 24 [aggK key, strV lb, .slice A cx.length ca, iV (n : Int)] [pRow bq q cx] (fun v rs => ∃ A b c r more, (0 < n → A = some ⟨b, 0, none⟩) ∧ n ≤ c ∧ v = .tuple #[.slice A n c, iV 0] ∧ rs = [⟨true, b, 0, 5, (labS key lb cx n ++ more).map u8V, r⟩]) := by
  refine Con.enter Try.func24 Try.ntmps24 (Nat.le_of_ble_eq_true rfl) rfl fun w => ?_
  refine At.seq ?_
  have hk32 : key.length = 32 := hkey
  have hil := infS_len n lb cx
  have htl6 : tls.length = 6 := rfl
  refine At.region ?_
  refine At.s (S_box (some 4) 4 (zs := key.map u8V) rfl rfl rfl (fun b4 => ?_))
  refine At.p (some 8) (P_assign rfl rfl) ?_
  refine At.p (some 9) (P_assign rfl rfl) ?_
  refine At.nil ?_
  refine At.next ?_
  refine At.seq ?_
  refine At.seq ?_
  refine At.region ?_
  refine At.p (some 11) (P_move rfl rfl) ?_
  refine At.p (some 12) (P_cmp rfl rfl rfl rfl rfl rfl) ?_
  refine At.p (some 13) (P_move rfl rfl) ?_
  refine At.gy (t := 13) rfl (by simp) rfl rfl ?_
  refine At.p (some 14) (P_move rfl rfl) ?_
  refine At.gy (t := 13) rfl (by simp) rfl rfl ?_
  refine At.p (some 15) (P_cmp rfl rfl rfl rfl rfl rfl) ?_
  refine At.p (some 16) (P_pick_f rfl rfl (by simp) rfl) ?_
  refine At.p (some 17) (P_move rfl rfl) ?_
  refine At.gy (t := 17) rfl (by simp; omega) rfl rfl ?_
  refine At.p (some 18) (P_move rfl rfl) ?_
  refine At.gy (t := 17) rfl (by simp; omega) rfl rfl ?_
  refine At.p (some 19) (P_eql_str (b := []) rfl rfl rfl) ?_
  refine At.p (some 20) (P_pick_f rfl rfl (by simp; omega) rfl) ?_
  refine At.p (some 21) (P_move rfl rfl) ?_
  refine At.gy (t := 21) rfl (by simp; exact List.ne_nil_of_length_pos hl1) rfl rfl ?_
  refine At.p (some 22) (P_move rfl rfl) ?_
  refine At.gy (t := 21) rfl (by simp; exact List.ne_nil_of_length_pos hl1) rfl rfl ?_
  refine At.p (some 23) (P_len_strV rfl rfl Try.underlying9 rfl) ?_
  refine At.gy (t := 21) rfl (by simp; exact List.ne_nil_of_length_pos hl1) rfl rfl ?_
  refine At.p (some 24) (P_cmp rfl rfl rfl rfl rfl rfl) ?_
  refine At.p (some 25) (P_pick_f rfl rfl (by simp; exact List.ne_nil_of_length_pos hl1) rfl) ?_
  refine At.p (some 26) (P_move rfl rfl) ?_
  refine At.gy (t := 26) rfl (by simp; omega) rfl rfl ?_
  refine At.p (some 27) (P_move rfl rfl) ?_
  refine At.gy (t := 26) rfl (by simp; omega) rfl rfl ?_
  refine At.p (some 28) (P_len_sl rfl rfl ⟨_, Try.underlying22⟩ rfl) ?_
  refine At.gy (t := 26) rfl (by simp; omega) rfl rfl ?_
  refine At.p (some 29) (P_cmp rfl rfl rfl rfl rfl rfl) ?_
  refine At.p (some 30) (P_pick_f rfl rfl (by simp; omega) rfl) ?_
  refine At.nil ?_
  refine At.next ?_
  refine At.cond rfl (fun h30 => by simp at h30; omega) (fun h30 => ?_)
  refine At.skip ?_
  refine At.next ?_
  refine At.seq ?_
  refine At.region ?_
  refine At.p (some 31) (P_move rfl rfl) ?_
  refine At.p (some 32) (P_shr_i rfl rfl rfl (by first | decide | omega) (by first | decide | omega)) ?_
  refine At.p (some 33) (P_conv_iwE (b := BitVec.ofNat 8 (n / 256)) (by8 (by show (n : Int) / 256 = _; omega)) UK.u8 rfl Try.underlying3 Try.underlying5 rfl) ?_
  refine At.p (some 34) (P_move rfl rfl) ?_
  refine At.p (some 35) (P_conv_iwE (b := BitVec.ofNat 8 (n)) (by8 (rfl)) UK.u8 rfl Try.underlying3 Try.underlying5 rfl) ?_
  refine At.p (some 36) (P_move rfl rfl) ?_
  refine At.p (some 37) (P_len_strV rfl rfl Try.underlying9 rfl) ?_
  refine At.p (some 38) (P_add_i rfl rfl rfl (by omega)) ?_
  refine At.p (some 39) (P_conv_iwE (b := BitVec.ofNat 8 (lb.length + 6)) (by8 (by omega)) UK.u8 rfl Try.underlying3 Try.underlying5 rfl) ?_
  refine At.s (S_buildSliceV (some 40) 10 ([BitVec.ofNat 8 (n / 256), BitVec.ofNat 8 n, BitVec.ofNat 8 (lb.length + 6)].map u8V) rfl Try.underlying22 sz5 ze5 rfl rfl (by decide) (by decide) rfl ⟨rfl, rfl, rfl⟩ (fun b10 => ?_))
  refine At.p (some 10) (P_assign rfl rfl) ?_
  refine At.nil ?_
  refine At.next ?_
  refine At.seq ?_
  refine At.region ?_
  refine At.p (some 41) (P_move rfl rfl) ?_
  refine At.p (some 42) (P_move rfl rfl) ?_
  refine At.p (some 43) (P_add_str (a := tls) rfl rfl rfl (by simp [tls]; omega)) ?_
  refine At.s (S_appendM (some 44) 10 (([BitVec.ofNat 8 (n / 256), BitVec.ofNat 8 n, BitVec.ofNat 8 (lb.length + 6)] ++ (tls ++ lb))) (f := u8V) (l := [BitVec.ofNat 8 (n / 256), BitVec.ofNat 8 n, BitVec.ofNat 8 (lb.length + 6)]) (L := (tls ++ lb)) rfl Try.underlying22 Try.underlying9 (.inl rfl) sz5 by5 ze5 rfl rfl (fun h => ⟨rfl, rfl⟩) rfl rfl (Src.strV rfl) (fun _ => rfl) (by first | omega | (simp <;> omega)) (by first | omega | (simp <;> omega)) rfl rfl ?_)
  intro A44 b44 c44 g44a g44b
  refine At.p (some 10) (P_assign rfl rfl) ?_
  refine At.nil ?_
  refine At.next ?_
  refine At.seq ?_
  refine At.region ?_
  refine At.p (some 45) (P_move rfl rfl) ?_
  refine At.p (some 46) (P_move rfl rfl) ?_
  refine At.p (some 47) (P_len_sl rfl rfl ⟨_, Try.underlying22⟩ rfl) ?_
  refine At.p (some 48) (P_conv_iwE (b := BitVec.ofNat 8 (cx.length)) (by8 (by omega)) UK.u8 rfl Try.underlying3 Try.underlying5 rfl) ?_
  refine At.s (S_buildSliceV (some 49) 49 ([BitVec.ofNat 8 cx.length].map u8V) rfl Try.underlying22 sz5 ze5 rfl rfl (by decide) (by decide) rfl rfl (fun b49 => ?_))
  refine At.s (S_appendM (some 50) 10 (([BitVec.ofNat 8 (n / 256), BitVec.ofNat 8 n, BitVec.ofNat 8 (lb.length + 6)] ++ (tls ++ lb) ++ [BitVec.ofNat 8 cx.length])) (f := u8V) (l := ([BitVec.ofNat 8 (n / 256), BitVec.ofNat 8 n, BitVec.ofNat 8 (lb.length + 6)] ++ (tls ++ lb))) (L := [BitVec.ofNat 8 cx.length]) rfl Try.underlying22 Try.underlying22 (.inr ⟨_, rfl⟩) sz5 by5 ze5 rfl rfl (fun h => ⟨g44a h, rfl⟩) rfl (by omega) (Src.row (k := 49) (j := 0) rfl (fun _ => rfl) (fun _ => ⟨rfl, rfl, rfl⟩) rfl rfl) (fun _ => rfl) (by first | omega | (simp <;> omega)) (by first | omega | (simp <;> omega)) rfl rfl ?_)
  intro A50 b50 c50 g50a g50b
  refine At.p (some 10) (P_assign rfl rfl) ?_
  refine At.nil ?_
  refine At.next ?_
  refine At.seq ?_
  refine At.eBrute (fun fr H => ∃ (A60 : Option Addr) (b60 c60 r60 : Nat) (m60 : List (BitVec 8)), fr = frOf [(8, .slice A60 n c60), (9, iV 0)] ∧ H = hOf [(60, ⟨true, b60, 0, 5, (labS key lb cx n ++ m60).map u8V, r60⟩)] ∧ (0 < n → A60 = some ⟨b60, 0, none⟩) ∧ n ≤ c60) (by kernel_rfl) ?_ ?_
  · intro Kb hKb
    refine At.eP 1 (some 52) (P_move rfl rfl) (by kernel_rfl) (by kernel_rfl) ?_
    refine At.eP 2 (some 53) (P_move rfl rfl) (by kernel_rfl) (by kernel_rfl) ?_
    refine At.eP 4 (some 55) (P_move rfl rfl) (by kernel_rfl) (by kernel_rfl) ?_
    refine At.eStep [0, 3] (by kernel_rfl) (by simp) ?_
    refine ⟨?_, ?_⟩
    ·
      refine At.anyQ (some 51) (Q_loadA (k := 4) rfl rfl Try.underlying25 rfl sz25 (by first | omega | (simp <;> omega)) rfl) ?_
      refine At.eStep [3] (by kernel_rfl) (by simp) ?_
      refine At.anyS (S_appendM (some 54) 10 ((infS n lb cx)) (f := u8V) (l := ([BitVec.ofNat 8 (n / 256), BitVec.ofNat 8 n, BitVec.ofNat 8 (lb.length + 6)] ++ (tls ++ lb) ++ [BitVec.ofNat 8 cx.length])) (L := cx) rfl Try.underlying22 Try.underlying22 (.inr ⟨_, rfl⟩) sz5 by5 ze5 rfl rfl (fun h => ⟨g50a h, rfl⟩) rfl (by omega) (Src.row (k := 0) (j := 0) rfl hA (fun _ => ⟨rfl, rfl, rfl⟩) (by simp [pRow, List.take_of_length_le]) (by simp)) (fun _ => rfl) (by first | omega | (simp <;> omega)) (by first | omega | (simp <;> omega)) rfl rfl ?_)
      intro A54 b54 c54 g54a g54b
      refine At.eStep [5] (by kernel_rfl) (by simp) ?_
      refine At.anyS (S_callV (some 56) [(10, _)] [60] (vs := [_, _, _]) rfl en20 rfl (VN (by simp) rfl View.all V0) (by simp) (c_Expand (info := (infS n lb cx)) (ni := (infS n lb cx).length) n rfl hkey hn (fun h => g54a (by omega)) (by omega)) (by rintro _ _ ⟨A60, b60, c60, r60, m60, g60a, g60b, rfl, rfl⟩; rfl) ?_)
      rintro _ _ ⟨A60, b60, c60, r60, m60, g60a, g60b, rfl, rfl⟩
      refine At.eP 6 (some 57) (P_extract rfl rfl rfl) (by kernel_rfl) (by kernel_rfl) ?_
      refine At.eP 7 (some 58) (P_extract rfl rfl rfl) (by kernel_rfl) (by kernel_rfl) ?_
      refine At.eP 8 (some 8) (P_assign rfl rfl) (by kernel_rfl) (by kernel_rfl) ?_
      refine At.eP 9 (some 9) (P_assign rfl rfl) (by kernel_rfl) (by kernel_rfl) ?_
      refine At.eEnd (by kernel_rfl) ?_
      refine At.next ?_
      refine At.to [(8, _), (9, _)] [(60, _)] (AllL.cons_ (rfl) (AllL.cons_ (rfl) trivial)) (AllL.cons_ (rfl) trivial) ?_
      exact hKb _ _ ⟨_, _, _, _, _, rfl, rfl, g60a, g60b⟩
    ·
      refine At.anyS (S_appendM (some 54) 10 ((infS n lb cx)) (f := u8V) (l := ([BitVec.ofNat 8 (n / 256), BitVec.ofNat 8 n, BitVec.ofNat 8 (lb.length + 6)] ++ (tls ++ lb) ++ [BitVec.ofNat 8 cx.length])) (L := cx) rfl Try.underlying22 Try.underlying22 (.inr ⟨_, rfl⟩) sz5 by5 ze5 rfl rfl (fun h => ⟨g50a h, rfl⟩) rfl (by omega) (Src.row (k := 0) (j := 0) rfl hA (fun _ => ⟨rfl, rfl, rfl⟩) (by simp [pRow, List.take_of_length_le]) (by simp)) (fun _ => rfl) (by first | omega | (simp <;> omega)) (by first | omega | (simp <;> omega)) rfl rfl ?_)
      intro A54 b54 c54 g54a g54b
      refine At.eStep [0] (by kernel_rfl) (by simp) ?_
      refine At.anyQ (some 51) (Q_loadA (k := 4) rfl rfl Try.underlying25 rfl sz25 (by first | omega | (simp <;> omega)) rfl) ?_
      refine At.eStep [5] (by kernel_rfl) (by simp) ?_
      refine At.anyS (S_callV (some 56) [(10, _)] [60] (vs := [_, _, _]) rfl en20 rfl (VN (by simp) rfl View.all V0) (by simp) (c_Expand (info := (infS n lb cx)) (ni := (infS n lb cx).length) n rfl hkey hn (fun h => g54a (by omega)) (by omega)) (by rintro _ _ ⟨A60, b60, c60, r60, m60, g60a, g60b, rfl, rfl⟩; rfl) ?_)
      rintro _ _ ⟨A60, b60, c60, r60, m60, g60a, g60b, rfl, rfl⟩
      refine At.eP 6 (some 57) (P_extract rfl rfl rfl) (by kernel_rfl) (by kernel_rfl) ?_
      refine At.eP 7 (some 58) (P_extract rfl rfl rfl) (by kernel_rfl) (by kernel_rfl) ?_
      refine At.eP 8 (some 8) (P_assign rfl rfl) (by kernel_rfl) (by kernel_rfl) ?_
      refine At.eP 9 (some 9) (P_assign rfl rfl) (by kernel_rfl) (by kernel_rfl) ?_
      refine At.eEnd (by kernel_rfl) ?_
      refine At.next ?_
      refine At.to [(8, _), (9, _)] [(60, _)] (AllL.cons_ (rfl) (AllL.cons_ (rfl) trivial)) (AllL.cons_ (rfl) trivial) ?_
      exact hKb _ _ ⟨_, _, _, _, _, rfl, rfl, g60a, g60b⟩
  · rintro fr H ⟨A60, b60, c60, r60, m60, rfl, rfl, g60a, g60b⟩
    refine At.next ?_
    refine At.ret ?_
    refine At.give (.inl rfl) [60] (rows' := [_]) (vs := [_, _]) rfl ⟨rfl, rfl, trivial⟩ rfl (by simp) (by simp) ⟨A60, b60, c60, r60, m60, g60a, g60b, rfl, rfl⟩

theorem c_Label {key lb cx : List (BitVec 8)} {nc : Nat} (n : Nat) {A : Option Addr} {ca bq q : Nat} (hnc : cx.length = nc) (hkey : key.length = 32) (hn : n ≤ 8160) (hl1 : 0 < lb.length) (hl2 : lb.length ≤ 249) (hcx : nc ≤ 255) (hA : 0 < nc → A = some ⟨bq, q, none⟩) :
    Con Try.prog 24 [aggK key, strV lb, .slice A nc ca, iV (n : Int)] [pRow bq q cx] (fun v rs => ∃ A b c r more, (0 < n → A = some ⟨b, 0, none⟩) ∧ n ≤ c ∧ v = .tuple #[.slice A n c, iV 0] ∧ rs = [⟨true, b, 0, 5, (labS key lb cx n ++ more).map u8V, r⟩]) := by
  subst hnc
  exact c_Label_ key lb cx n A ca bq q hkey hn hl1 hl2 hcx hA

set_option maxHeartbeats 1000000 in
theorem r_Label_ (key lb cx : List (BitVec 8)) (n : Nat) (A : Option Addr) (ca bq q : Nat) (hkey : key.length = 32) (hn : n ≤ 8160) (hl1 : 0 < lb.length) (hl2 : lb.length ≤ 249) (hcx : cx.length ≤ 255) (hA : 0 < cx.length → A = some ⟨bq, q, none⟩) :
    Con Try.prog 25 [aggK key, strV lb, .slice A cx.length ca, iV (n : Int)] [pRow bq q cx] (fun v rs => ∃ A b c r more, (0 < n → A = some ⟨b, 0, none⟩) ∧ n ≤ c ∧ v = .tuple #[.slice A n c, .bool true] ∧ rs = [⟨true, b, 0, 5, (labS key lb cx n ++ more).map u8V, r⟩]) := by
  refine Con.enter Try.func25 Try.ntmps25 (Nat.le_of_ble_eq_true rfl) rfl fun w => ?_
  refine At.seq ?_
  have hk32 : key.length = 32 := hkey
  have hil := infS_len n lb cx
  have htl6 : tls.length = 6 := rfl
  refine At.region ?_
  refine At.s (S_box (some 4) 4 (zs := key.map u8V) rfl rfl rfl (fun b4 => ?_))
  refine At.p (some 8) (P_assign rfl rfl) ?_
  refine At.p (some 9) (P_assign rfl rfl) ?_
  refine At.nil ?_
  refine At.next ?_
  refine At.seq ?_
  refine At.seq ?_
  refine At.region ?_
  refine At.p (some 11) (P_move rfl rfl) ?_
  refine At.p (some 12) (P_cmp rfl rfl rfl rfl rfl rfl) ?_
  refine At.p (some 13) (P_move rfl rfl) ?_
  refine At.gy (t := 13) rfl (by simp) rfl rfl ?_
  refine At.p (some 14) (P_move rfl rfl) ?_
  refine At.gy (t := 13) rfl (by simp) rfl rfl ?_
  refine At.p (some 15) (P_cmp rfl rfl rfl rfl rfl rfl) ?_
  refine At.p (some 16) (P_pick_f rfl rfl (by simp) rfl) ?_
  refine At.p (some 17) (P_move rfl rfl) ?_
  refine At.gy (t := 17) rfl (by simp; omega) rfl rfl ?_
  refine At.p (some 18) (P_move rfl rfl) ?_
  refine At.gy (t := 17) rfl (by simp; omega) rfl rfl ?_
  refine At.p (some 19) (P_len_strV rfl rfl Try.underlying9 rfl) ?_
  refine At.gy (t := 17) rfl (by simp; omega) rfl rfl ?_
  refine At.p (some 20) (P_cmp rfl rfl rfl rfl rfl rfl) ?_
  refine At.p (some 21) (P_pick_f rfl rfl (by simp; omega) rfl) ?_
  refine At.p (some 22) (P_move rfl rfl) ?_
  refine At.gy (t := 22) rfl (by simp; omega) rfl rfl ?_
  refine At.p (some 23) (P_move rfl rfl) ?_
  refine At.gy (t := 22) rfl (by simp; omega) rfl rfl ?_
  refine At.p (some 24) (P_len_strV rfl rfl Try.underlying9 rfl) ?_
  refine At.gy (t := 22) rfl (by simp; omega) rfl rfl ?_
  refine At.p (some 25) (P_cmp rfl rfl rfl rfl rfl rfl) ?_
  refine At.p (some 26) (P_pick_f rfl rfl (by simp; omega) rfl) ?_
  refine At.p (some 27) (P_move rfl rfl) ?_
  refine At.gy (t := 27) rfl (by simp; omega) rfl rfl ?_
  refine At.p (some 28) (P_move rfl rfl) ?_
  refine At.gy (t := 27) rfl (by simp; omega) rfl rfl ?_
  refine At.p (some 29) (P_len_sl rfl rfl ⟨_, Try.underlying22⟩ rfl) ?_
  refine At.gy (t := 27) rfl (by simp; omega) rfl rfl ?_
  refine At.p (some 30) (P_cmp rfl rfl rfl rfl rfl rfl) ?_
  refine At.p (some 31) (P_pick_f rfl rfl (by simp; omega) rfl) ?_
  refine At.nil ?_
  refine At.next ?_
  refine At.cond rfl (fun h31 => by simp at h31; omega) (fun h31 => ?_)
  refine At.skip ?_
  refine At.next ?_
  refine At.seq ?_
  refine At.region ?_
  refine At.p (some 32) (P_move rfl rfl) ?_
  refine At.p (some 33) (P_quo_i rfl rfl rfl (by omega) (by omega) (by first | decide | omega)) ?_
  refine At.p (some 34) (P_conv_iwE (b := BitVec.ofNat 8 (n / 256)) (by8 (by omega)) UK.u8 rfl Try.underlying3 Try.underlying5 rfl) ?_
  refine At.p (some 35) (P_move rfl rfl) ?_
  refine At.p (some 36) (P_rem_i rfl rfl rfl (by omega) (by first | decide | omega)) ?_
  refine At.p (some 37) (P_conv_iwE (b := BitVec.ofNat 8 n) ((by8 (m := n % 256) (by omega)).trans (by apply BitVec.eq_of_toNat_eq; rw [BitVec.toNat_ofNat, BitVec.toNat_ofNat]; omega)) UK.u8 rfl Try.underlying3 Try.underlying5 rfl) ?_
  refine At.p (some 38) (P_move rfl rfl) ?_
  refine At.p (some 39) (P_len_strV rfl rfl Try.underlying9 rfl) ?_
  refine At.p (some 40) (P_add_i rfl rfl rfl (by omega)) ?_
  refine At.p (some 41) (P_conv_iwE (b := BitVec.ofNat 8 (lb.length + 6)) (by8 (by omega)) UK.u8 rfl Try.underlying3 Try.underlying5 rfl) ?_
  refine At.s (S_buildSliceV (some 42) 10 ([BitVec.ofNat 8 (n / 256), BitVec.ofNat 8 n, BitVec.ofNat 8 (lb.length + 6)].map u8V) rfl Try.underlying22 sz5 ze5 rfl rfl (by decide) (by decide) rfl ⟨rfl, rfl, rfl⟩ (fun b10 => ?_))
  refine At.p (some 10) (P_assign rfl rfl) ?_
  refine At.nil ?_
  refine At.next ?_
  refine At.seq ?_
  refine At.region ?_
  refine At.p (some 43) (P_move rfl rfl) ?_
  refine At.s (S_appendM (some 44) 10 (([BitVec.ofNat 8 (n / 256), BitVec.ofNat 8 n, BitVec.ofNat 8 (lb.length + 6)] ++ tls)) (f := u8V) (l := [BitVec.ofNat 8 (n / 256), BitVec.ofNat 8 n, BitVec.ofNat 8 (lb.length + 6)]) (L := tls) rfl Try.underlying22 Try.underlying9 (.inl rfl) sz5 by5 ze5 rfl rfl (fun h => ⟨rfl, rfl⟩) rfl rfl (Src.strV (a := tls) rfl) (fun _ => rfl) (by first | omega | (simp <;> omega)) (by first | omega | (simp <;> omega)) rfl rfl ?_)
  intro A43 b43 c43 g43a g43b
  refine At.p (some 45) (P_move rfl rfl) ?_
  refine At.s (S_appendM (some 46) 10 (([BitVec.ofNat 8 (n / 256), BitVec.ofNat 8 n, BitVec.ofNat 8 (lb.length + 6)] ++ (tls ++ lb))) (f := u8V) (l := ([BitVec.ofNat 8 (n / 256), BitVec.ofNat 8 n, BitVec.ofNat 8 (lb.length + 6)] ++ tls)) (L := lb) rfl Try.underlying22 Try.underlying9 (.inl rfl) sz5 by5 ze5 rfl rfl (fun h => ⟨g43a h, rfl⟩) rfl (by omega) (Src.strV rfl) (fun _ => rfl) (by first | omega | (simp <;> omega)) (by first | omega | (simp <;> omega)) (List.append_assoc _ _ _) rfl ?_)
  intro A44 b44 c44 g44a g44b
  refine At.p (some 10) (P_assign rfl rfl) ?_
  refine At.nil ?_
  refine At.next ?_
  refine At.seq ?_
  refine At.region ?_
  refine At.p (some 47) (P_move rfl rfl) ?_
  refine At.p (some 48) (P_move rfl rfl) ?_
  refine At.p (some 49) (P_len_sl rfl rfl ⟨_, Try.underlying22⟩ rfl) ?_
  refine At.p (some 50) (P_conv_iwE (b := BitVec.ofNat 8 (cx.length)) (by8 (by omega)) UK.u8 rfl Try.underlying3 Try.underlying5 rfl) ?_
  refine At.s (S_buildSliceV (some 51) 49 ([BitVec.ofNat 8 cx.length].map u8V) rfl Try.underlying22 sz5 ze5 rfl rfl (by decide) (by decide) rfl rfl (fun b49 => ?_))
  refine At.s (S_appendM (some 52) 10 (([BitVec.ofNat 8 (n / 256), BitVec.ofNat 8 n, BitVec.ofNat 8 (lb.length + 6)] ++ (tls ++ lb) ++ [BitVec.ofNat 8 cx.length])) (f := u8V) (l := ([BitVec.ofNat 8 (n / 256), BitVec.ofNat 8 n, BitVec.ofNat 8 (lb.length + 6)] ++ (tls ++ lb))) (L := [BitVec.ofNat 8 cx.length]) rfl Try.underlying22 Try.underlying22 (.inr ⟨_, rfl⟩) sz5 by5 ze5 rfl rfl (fun h => ⟨g44a h, rfl⟩) rfl (by omega) (Src.row (k := 49) (j := 0) rfl (fun _ => rfl) (fun _ => ⟨rfl, rfl, rfl⟩) rfl rfl) (fun _ => rfl) (by first | omega | (simp <;> omega)) (by first | omega | (simp <;> omega)) rfl rfl ?_)
  intro A50 b50 c50 g50a g50b
  refine At.p (some 53) (P_move rfl rfl) ?_
  refine At.s (S_appendM (some 54) 10 ((infS n lb cx)) (f := u8V) (l := ([BitVec.ofNat 8 (n / 256), BitVec.ofNat 8 n, BitVec.ofNat 8 (lb.length + 6)] ++ (tls ++ lb) ++ [BitVec.ofNat 8 cx.length])) (L := cx) rfl Try.underlying22 Try.underlying22 (.inr ⟨_, rfl⟩) sz5 by5 ze5 rfl rfl (fun h => ⟨g50a h, rfl⟩) rfl (by omega) (Src.row (k := 0) (j := 0) rfl hA (fun _ => ⟨rfl, rfl, rfl⟩) (by simp [pRow, List.take_of_length_le]) (by simp)) (fun _ => rfl) (by first | omega | (simp <;> omega)) (by first | omega | (simp <;> omega)) rfl rfl ?_)
  intro A54 b54 c54 g54a g54b
  refine At.p (some 10) (P_assign rfl rfl) ?_
  refine At.nil ?_
  refine At.next ?_
  refine At.seq ?_
  refine At.region ?_
  refine At.q (some 55) (Q_loadA (k := 4) rfl rfl Try.underlying25 rfl sz25 (by first | omega | (simp <;> omega)) rfl) ?_
  refine At.p (some 56) (P_move rfl rfl) ?_
  refine At.p (some 57) (P_move rfl rfl) ?_
  refine At.s (S_callV (some 58) [(10, _)] [60] (vs := [_, _, _]) rfl en21 rfl (VN (by simp) rfl View.all V0) (by simp) (r_Expand (info := (infS n lb cx)) (ni := (infS n lb cx).length) n rfl hkey hn (fun h => g54a (by omega)) (by omega)) (by rintro _ _ ⟨A60, b60, c60, r60, m60, g60a, g60b, rfl, rfl⟩; rfl) ?_)
  rintro _ _ ⟨A60, b60, c60, r60, m60, g60a, g60b, rfl, rfl⟩
  refine At.p (some 59) (P_extract rfl rfl rfl) ?_
  refine At.p (some 60) (P_extract rfl rfl rfl) ?_
  refine At.p (some 8) (P_assign rfl rfl) ?_
  refine At.p (some 9) (P_assign rfl rfl) ?_
  refine At.nil ?_
  refine At.next ?_
  refine At.ret ?_
  refine At.give (.inl rfl) [60] (rows' := [_]) (vs := [_, _]) rfl ⟨rfl, rfl, trivial⟩ rfl (by simp) (by simp) ⟨A60, b60, c60, r60, m60, g60a, g60b, rfl, rfl⟩

theorem r_Label {key lb cx : List (BitVec 8)} {nc : Nat} (n : Nat) {A : Option Addr} {ca bq q : Nat} (hnc : cx.length = nc) (hkey : key.length = 32) (hn : n ≤ 8160) (hl1 : 0 < lb.length) (hl2 : lb.length ≤ 249) (hcx : nc ≤ 255) (hA : 0 < nc → A = some ⟨bq, q, none⟩) :
    Con Try.prog 25 [aggK key, strV lb, .slice A nc ca, iV (n : Int)] [pRow bq q cx] (fun v rs => ∃ A b c r more, (0 < n → A = some ⟨b, 0, none⟩) ∧ n ≤ c ∧ v = .tuple #[.slice A n c, .bool true] ∧ rs = [⟨true, b, 0, 5, (labS key lb cx n ++ more).map u8V, r⟩]) := by
  subst hnc
  exact r_Label_ key lb cx n A ca bq q hkey hn hl1 hl2 hcx hA
end Go.Proofs.Ytdkeadfhejkidaa
