import Derived.Test.YtcjfkmhijfcciaaDoorXP3
import Derived.Test.YtcjfkmhijfcciaaDoorG1
namespace Go.Proofs.YtcjfkmhijfcciaaDoor
set_option maxRecDepth 20000
set_option linter.unusedVariables false
set_option linter.unusedSimpArgs false
open Go.SE Go.RowKit
def padN (n : Nat) : Nat := (16 - n % 16) % 16
def padZQ (l : List (BitVec 8)) : Nat → List (BitVec 8)
 | 0 => l
 | z + 1 => padZQ l z ++ [0#8]
theorem padZ_eq (l : List (BitVec 8)) (z : Nat) : padZQ l z = l ++ List.replicate z 0#8 := by
 induction z with
 | zero => simp [padZQ]
 | succ z ih => rw [padZQ, ih, List.replicate_succ', List.append_assoc]
theorem padZ_len (l : List (BitVec 8)) (z : Nat) : (padZQ l z).length = l.length + z := by rw [padZ_eq]; simp
def pad16 (l : List (BitVec 8)) : List (BitVec 8) := padZQ l (padN l.length)
theorem padN_lt (n : Nat) : padN n < 16 := Nat.mod_lt _ (by decide)
theorem pad16_len (l : List (BitVec 8)) : (pad16 l).length = l.length + padN l.length := padZ_len _ _
def cntTo (m : List (BitVec 8)) (n : Nat) : Nat → List (BitVec 8)
 | 0 => m
 | i + 1 => cntTo m n i ++ [(BitVec.ofInt 64 (n : Int) >>> (8 * i)).setWidth 8]
theorem cntTo_len (m : List (BitVec 8)) (n i : Nat) : (cntTo m n i).length = m.length + i := by
 induction i with
 | zero => rfl
 | succ i ih => rw [cntTo, List.length_append, ih]; rfl
def macIn (b more : List (BitVec 8)) : List (BitVec 8) := cntTo (cntTo (pad16 (pad16 more ++ b)) more.length 8) b.length 8
theorem macIn_len (b more : List (BitVec 8)) : (macIn b more).length ≤ b.length + more.length + 46 := by
 have h1 := padN_lt more.length
 have h2 := padN_lt (pad16 more ++ b).length
 rw [macIn, cntTo_len, cntTo_len, pad16_len, List.length_append, pad16_len] at *
 omega
def ownK (key nonce : List (BitVec 8)) : List (BitVec 8) := (blockS key 0#32 nonce).take 32
theorem ownK_len (key nonce : List (BitVec 8)) : (ownK key nonce).length = 32 := by rw [ownK, List.length_take, blockS_len]; rfl
def aTag (key nonce b more : List (BitVec 8)) : List (BitVec 8) := tagS (ownK key nonce) (macIn b more)
theorem aTag_len (key nonce b more : List (BitVec 8)) : (aTag key nonce b more).length = 16 := tagS_len _ _
def sealS (key nonce text more : List (BitVec 8)) : List (BitVec 8) := streamS key 1#32 nonce text ++ aTag key nonce (streamS key 1#32 nonce text) more
theorem sealS_len (key nonce text more : List (BitVec 8)) : (sealS key nonce text more).length = text.length + 16 := by rw [sealS, List.length_append, streamS_len, aTag_len]
theorem c_paddedQ (p b : List (BitVec 8)) (A A2 : Option Addr) (b1 c1 ca bq q : Nat) (hA : 0 < c1 → A = some ⟨b1, 0, none⟩) (hc : p.length ≤ c1) (hB : 0 < b.length → A2 = some ⟨bq, q, none⟩) (hl : p.length + b.length ≤ 1000000) :
  Con Tryd.prog 47 [.slice A p.length c1, .slice A2 b.length ca] [⟨true, b1, 0, 5, p.map u8V, c1 - p.length⟩, pRow bq q b] (fun v rs => ∃ Aa ba ca', (0 < ca' → Aa = some ⟨ba, 0, none⟩) ∧ (pad16 (p ++ b)).length ≤ ca' ∧ v = .slice Aa (pad16 (p ++ b)).length ca' ∧ rs = [⟨true, ba, 0, 5, (pad16 (p ++ b)).map u8V, ca' - (pad16 (p ++ b)).length⟩]) := by
 refine Con.enter Tryd.func47 Tryd.ntmps47 (Nat.le_of_ble_eq_true rfl) rfl fun w => ?_
 refine At.seq ?_
 have hpb : (p ++ b).length = p.length + b.length := List.length_append
 refine At.region ?_
 refine At.p (some 4) (P_assign rfl rfl) ?_
 refine At.nil ?_
 refine At.next ?_
 refine At.seq ?_
 refine At.region ?_
 refine At.p (some 5) (P_move rfl rfl) ?_
 refine At.p (some 6) (P_move rfl rfl) ?_
 refine At.s (S_appendM (some 7) 0 (padZQ (p ++ b) 0) (f := u8V) (l := p) (L := b) rfl Tryd.underlying36 Tryd.underlying36 (.inr ⟨_, rfl⟩) sz5 by5 ze5 rfl rfl (fun h => ⟨hA h, rfl⟩) rfl (by omega) (Src.row (k := 1) (j := 0) rfl hB (fun _ => ⟨rfl, rfl, rfl⟩) (by simp [pRow, List.take_of_length_le]) (by simp)) (fun _ => rfl) (by omega) (by omega) rfl rfl ?_)
 intro A0 b0 c0 hA0 hc0
 refine At.p (some 0) (P_assign rfl rfl) ?_
 refine At.nil ?_
 refine At.next ?_
 refine At.seq ?_
 refine At.block ?_
 refine At.loopx (I := fun m fr H => ∃ (z b0 c0 : Nat) (A0 : Option Addr), m = padN (p ++ b).length - z ∧ fr = frOf [(0, .slice A0 (padZQ (p ++ b) z).length c0)] ∧ H = hOf [(0, ⟨true, b0, 0, 5, (padZQ (p ++ b) z).map u8V, c0 - (padZQ (p ++ b) z).length⟩)] ∧ z ≤ padN (p ++ b).length ∧ (0 < c0 → A0 = some ⟨b0, 0, none⟩) ∧ (padZQ (p ++ b) z).length ≤ c0) ?_ ?_
 ·
  intro Kc0 hKc0
  refine At.to [(0, _)] [(0, ⟨true, b0, 0, 5, (padZQ (p ++ b) 0).map u8V, c0 - (padZQ (p ++ b) 0).length⟩)] (AllL.cons_ (rfl) trivial) (AllL.cons_ (rfl) trivial) ?_
  exact hKc0 _ _ _ ⟨0, b0, c0, A0, rfl, rfl, rfl, by omega, hA0, hc0⟩
 ·
  rintro m fr H ⟨z, b0, c0, A0, rfl, rfl, rfl, hz, hA0, hc0⟩ Kc0 hKc0
  refine At.seq ?_
  refine At.seq ?_
  refine At.region ?_
  refine At.p (some 8) (P_move rfl rfl) ?_
  refine At.p (some 9) (P_len_sl rfl rfl ⟨_, Tryd.underlying36⟩ rfl) ?_
  refine At.p (some 10) (P_rem_i rfl rfl rfl (by omega) (by first | decide | omega)) ?_
  refine At.p (some 11) (P_cmp rfl rfl rfl rfl rfl rfl) ?_
  refine At.nil ?_
  refine At.next ?_
  refine At.cond rfl (fun h11 => ?_) (fun h11 => ?_)
  · -- cond 11 t
   have hpl := padZ_len (p ++ b) z
   have hzl := padN_lt (p ++ b).length
   have hlt : z < padN (p ++ b).length := by
    have h2 : ¬ ((padZQ (p ++ b) z).length : Int) % 16 = 0 := by simpa using h11
    unfold padN at *
    omega
   refine At.skip ?_
   refine At.next ?_
   refine At.block ?_
   refine At.region ?_
   refine At.p (some 12) (P_move rfl rfl) ?_
   refine At.s (S_buildSliceV (some 13) 13 ([0#8].map u8V) rfl Tryd.underlying36 sz5 ze5 rfl rfl (by decide) (by decide) rfl rfl (fun b13 => ?_))
   refine At.s (S_appendM (some 14) 0 (padZQ (p ++ b) (z + 1)) (f := u8V) (l := padZQ (p ++ b) z) (L := [0#8]) rfl Tryd.underlying36 Tryd.underlying36 (.inr ⟨_, rfl⟩) sz5 by5 ze5 rfl rfl (fun h => ⟨hA0 h, rfl⟩) rfl (by omega) (Src.row (k := 13) (j := 0) rfl (fun _ => rfl) (fun _ => ⟨rfl, rfl, rfl⟩) rfl rfl) (fun _ => rfl) (by omega) (by omega) rfl rfl ?_)
   intro A0 b0 c0 g1 g2
   refine At.p (some 0) (P_assign rfl rfl) ?_
   refine At.nil ?_
   refine At.inb_n ?_
   refine At.next ?_
   refine At.to [(0, _)] [(0, _)] (AllL.cons_ (rfl) trivial) (AllL.cons_ (rfl) trivial) ?_
   exact hKc0 _ _ _ (by omega) ⟨z + 1, _, _, _, rfl, rfl, rfl, by omega, g1, g2⟩
  · -- cond 11 f
   have hpl := padZ_len (p ++ b) z
   have h2 : ((padZQ (p ++ b) z).length : Int) % 16 = 0 := by simpa using h11
   have hze : z = padN (p ++ b).length := by
    unfold padN at *
    omega
   subst hze
   refine At.exit ?_
   refine At.thn_e ?_
   refine At.thn_e ?_
   refine At.inb_hit ?_
   refine At.next ?_
   refine At.seq ?_
   refine At.region ?_
   refine At.p (some 15) (P_move rfl rfl) ?_
   refine At.p (some 4) (P_assign rfl rfl) ?_
   refine At.nil ?_
   refine At.next ?_
   refine At.ret ?_
   refine At.give (.inl rfl) [0] (rows' := [_]) (vs := [_]) rfl ⟨rfl, trivial⟩ rfl (by simp) (by simp) ⟨A0, b0, c0, hA0, hc0, rfl, rfl⟩

theorem c_counted (p : List (BitVec 8)) (n : Nat) (A : Option Addr) (b1 c1 : Nat) (hA : 0 < c1 → A = some ⟨b1, 0, none⟩) (hc : p.length ≤ c1) (hl : p.length ≤ 1000000) :
  Con Tryd.prog 48 [.slice A p.length c1, iV (n : Int)] [⟨true, b1, 0, 5, p.map u8V, c1 - p.length⟩] (fun v rs => ∃ Aa ba ca', (0 < ca' → Aa = some ⟨ba, 0, none⟩) ∧ (cntTo p n 8).length ≤ ca' ∧ v = .slice Aa (cntTo p n 8).length ca' ∧ rs = [⟨true, ba, 0, 5, (cntTo p n 8).map u8V, ca' - (cntTo p n 8).length⟩]) := by
 refine Con.enter Tryd.func48 Tryd.ntmps48 (Nat.le_of_ble_eq_true rfl) rfl fun w => ?_
 refine At.seq ?_
 refine At.region ?_
 refine At.p (some 4) (P_assign rfl rfl) ?_
 refine At.nil ?_
 refine At.next ?_
 refine At.seq ?_
 refine At.seq ?_
 refine At.region ?_
 refine At.p (some 6) (P_move rfl rfl) ?_
 refine At.nil ?_
 refine At.next ?_
 refine At.block ?_
 refine At.loopx (I := fun m fr H => ∃ (i b0 c0 : Nat) (A0 : Option Addr), m = 8 - i ∧ fr = frOf [(0, .slice A0 (cntTo p n i).length c0), (1, iV (n : Int)), (6, iV (i : Int))] ∧ H = hOf [(0, ⟨true, b0, 0, 5, (cntTo p n i).map u8V, c0 - (cntTo p n i).length⟩)] ∧ i ≤ 8 ∧ (0 < c0 → A0 = some ⟨b0, 0, none⟩) ∧ (cntTo p n i).length ≤ c0) ?_ ?_
 ·
  intro Kc0 hKc0
  refine At.to [(0, .slice A (cntTo p n 0).length c1), (1, _), (6, _)] [(0, ⟨true, b1, 0, 5, (cntTo p n 0).map u8V, c1 - (cntTo p n 0).length⟩)] (AllL.cons_ (rfl) (AllL.cons_ (rfl) (AllL.cons_ (rfl) trivial))) (AllL.cons_ (rfl) trivial) ?_
  exact hKc0 _ _ _ ⟨0, b1, c1, A, rfl, rfl, rfl, by omega, hA, hc⟩
 ·
  rintro m fr H ⟨i, b0, c0, A0, rfl, rfl, rfl, hi, hA0, hc0⟩ Kc0 hKc0
  refine At.seq ?_
  refine At.region ?_
  refine At.p (some 7) (P_cmp rfl rfl rfl rfl rfl rfl) ?_
  refine At.nil ?_
  refine At.next ?_
  refine At.seq ?_
  refine At.cond rfl (fun h7 => ?_) (fun h7 => ?_)
  · -- cond 7 t
   have hlt : i < 8 := by simp at h7; omega
   have hcl := cntTo_len p n i
   refine At.skip ?_
   refine At.next ?_
   refine At.seq ?_
   refine At.block ?_
   refine At.seq ?_
   refine At.region ?_
   refine At.p (some 8) (P_move rfl rfl) ?_
   refine At.p (some 5) (P_assign rfl rfl) ?_
   refine At.nil ?_
   refine At.next ?_
   refine At.region ?_
   refine At.p (some 9) (P_move rfl rfl) ?_
   refine At.p (some 10) (P_move rfl rfl) ?_
   refine At.p (some 11) (P_conv_iw UK.u64 rfl Tryd.underlying3 Tryd.underlying26 rfl) ?_
   refine At.p (some 12) (P_move rfl rfl) ?_
   refine At.p (some 13) (P_mul_i rfl rfl rfl (by omega)) ?_
   refine At.p (some 14) (P_shr_w UK.u64 (n := 64) rfl rfl rfl (by first | decide | omega)) ?_
   refine At.p (some 15) (P_conv_ww UK.u8 (m := 64) rfl Tryd.underlying26 Tryd.underlying5 rfl) ?_
   refine At.s (S_buildSliceV (some 16) 16 ([(BitVec.ofInt 64 (n : Int) >>> (8 * (i : Int)).toNat).setWidth 8].map u8V) rfl Tryd.underlying36 sz5 ze5 rfl rfl (by decide) (by decide) rfl rfl (fun b16 => ?_))
   refine At.s (S_appendM (some 17) 0 (cntTo p n (i + 1)) (f := u8V) (l := cntTo p n i) (L := [(BitVec.ofInt 64 (n : Int) >>> (8 * (i : Int)).toNat).setWidth 8]) rfl Tryd.underlying36 Tryd.underlying36 (.inr ⟨_, rfl⟩) sz5 by5 ze5 rfl rfl (fun h => ⟨hA0 h, rfl⟩) rfl (by omega) (Src.row (k := 16) (j := 0) rfl (fun _ => rfl) (fun _ => ⟨rfl, rfl, rfl⟩) rfl rfl) (fun _ => rfl) (by omega) (by omega) (by rw [show (8 * (i : Int)).toNat = 8 * i by omega]; rfl) rfl ?_)
   intro A0 b0 c0 g1 g2
   refine At.p (some 0) (P_assign rfl rfl) ?_
   refine At.nil ?_
   refine At.inb_n ?_
   refine At.next ?_
   refine At.region ?_
   refine At.p (some 18) (P_add_i rfl rfl rfl (by omega)) ?_
   refine At.p (some 6) (P_move rfl rfl) ?_
   refine At.nil ?_
   refine At.next ?_
   refine At.to [(0, _), (1, _), (6, _)] [(0, _)] (AllL.cons_ (rfl) (AllL.cons_ (rfl) (AllL.cons_ (rfl) trivial))) (AllL.cons_ (rfl) trivial) ?_
   exact hKc0 _ _ _ (by omega) ⟨i + 1, _, _, _, rfl, rfl, rfl, by omega, g1, g2⟩
  · -- cond 7 f
   obtain rfl : i = 8 := by simp at h7; omega
   refine At.exit ?_
   refine At.thn_e ?_
   refine At.thn_e ?_
   refine At.inb_hit ?_
   refine At.next ?_
   refine At.seq ?_
   refine At.region ?_
   refine At.p (some 19) (P_move rfl rfl) ?_
   refine At.p (some 4) (P_assign rfl rfl) ?_
   refine At.nil ?_
   refine At.next ?_
   refine At.ret ?_
   refine At.give (.inl rfl) [0] (rows' := [_]) (vs := [_]) rfl ⟨rfl, trivial⟩ rfl (by simp) (by simp) ⟨A0, b0, c0, hA0, hc0, rfl, rfl⟩

theorem c_tag (key nonce b more : List (BitVec 8)) (A A2 : Option Addr) (ca cb bq q br r : Nat) (hkey : key.length = 32) (hnonce : nonce.length = 12) (hA : 0 < b.length → A = some ⟨bq, q, none⟩) (hB : 0 < more.length → A2 = some ⟨br, r, none⟩) (hl : b.length ≤ 100000) (hlm : more.length ≤ 100000) :
  Con Tryd.prog 34 [aggK key, aggK nonce, .slice A b.length ca, .slice A2 more.length cb] [pRow bq q b, pRow br r more] (fun v rs => v = aggK (aTag key nonce b more) ∧ rs = []) := by
 refine Con.enter Tryd.func34 Tryd.ntmps34 (Nat.le_of_ble_eq_true rfl) rfl fun w => ?_
 refine At.seq ?_
 have hk32 : key.length = 32 := hkey
 have hn12 : nonce.length = 12 := hnonce
 have hbl := blockS_len key 0#32 nonce
 have hml := macIn_len b more
 have h1 := padN_lt ([] ++ more).length
 have h2 := padN_lt (pad16 ([] ++ more) ++ b).length
 have h3 := pad16_len ([] ++ more)
 have h4 := pad16_len (pad16 ([] ++ more) ++ b)
 have h5 : (pad16 ([] ++ more) ++ b).length = (pad16 ([] ++ more)).length + b.length := List.length_append
 have h6 : ([] ++ more).length = more.length := rfl
 have h7 := cntTo_len (pad16 (pad16 ([] ++ more) ++ b)) more.length 8
 have h8 := cntTo_len (cntTo (pad16 (pad16 ([] ++ more) ++ b)) more.length 8) b.length 8
 have htl := tagS_len (ownK key nonce) (cntTo (cntTo (pad16 (pad16 ([] ++ more) ++ b)) more.length 8) b.length 8)
 refine At.region ?_
 refine At.s (S_box (some 4) 4 (zs := key.map u8V) rfl rfl rfl (fun b4 => ?_))
 refine At.s (S_box (some 5) 5 (zs := nonce.map u8V) rfl rfl rfl (fun b5 => ?_))
 refine At.s (S_alloc (some 8) 8 (zs := (List.replicate 16 0#8).map u8V) rfl ze72 rfl (fun b8 => ?_))
 refine At.nil ?_
 refine At.next ?_
 refine At.seq ?_
 refine At.region ?_
 refine At.q (some 11) (Q_loadA (k := 4) rfl rfl Tryd.underlying22 rfl sz22 WD rfl) ?_
 refine At.q (some 12) (Q_loadA (k := 5) rfl rfl Tryd.underlying39 rfl sz39 WD rfl) ?_
 refine At.s (S_callV (some 13) [] [] (vs := [_, _, _]) rfl en46 rfl V0 (by simp) (c_Block key nonce 0#32 hkey hnonce) (by rintro _ _ ⟨rfl, rfl⟩; rfl) ?_)
 rintro _ _ ⟨rfl, rfl⟩
 refine At.s (S_alloc (some 9) 9 (zs := (List.replicate 64 0#8).map u8V) rfl ze90 rfl (fun b9 => ?_))
 refine At.s (S_storeA none (k := 9) (vs := _) rfl rfl rfl (by first | (rw [sz90]; simp <;> omega) | exact sz90) rfl WA WB rfl WC ?_)
 refine At.nil ?_
 refine At.next ?_
 refine At.seq ?_
 refine At.region ?_
 refine At.p (some 14) (P_move rfl rfl) ?_
 refine At.empty 10 0 5 ?_
 refine At.s (S_callR (some 15) [(10, _)] [(1, _)] [10] (vs := [_, _]) rfl en47 rfl (ON rfl rfl O0) (by simp) (VN (by simp) rfl View.all V0) (by simp) (c_paddedQ [] more none A2 0 0 cb br r (fun h => absurd h (by decide)) (by decide) hB (by simp; omega)) (by rintro _ _ ⟨A15, b15, c15, g15a, g15b, rfl, rfl⟩; rfl) ?_)
 rintro _ _ ⟨A15, b15, c15, g15a, g15b, rfl, rfl⟩
 refine At.p (some 16) (P_move rfl rfl) ?_
 refine At.s (S_callR (some 17) [(10, _)] [(0, _)] [10] (vs := [_, _]) rfl en47 rfl (ON rfl rfl O0) (by simp) (VN (by simp) rfl View.all V0) (by simp) (c_paddedQ (pad16 ([] ++ more)) b A15 A b15 c15 ca bq q g15a g15b hA (by omega)) (by rintro _ _ ⟨A17, b17, c17, g17a, g17b, rfl, rfl⟩; rfl) ?_)
 rintro _ _ ⟨A17, b17, c17, g17a, g17b, rfl, rfl⟩
 refine At.p (some 10) (P_assign rfl rfl) ?_
 refine At.nil ?_
 refine At.next ?_
 refine At.seq ?_
 refine At.region ?_
 refine At.p (some 18) (P_move rfl rfl) ?_
 refine At.p (some 19) (P_move rfl rfl) ?_
 refine At.p (some 20) (P_len_sl rfl rfl ⟨_, Tryd.underlying36⟩ rfl) ?_
 refine At.s (S_callR (some 21) [(10, _)] [] [10] (vs := [_, _]) rfl en48 rfl (ON rfl rfl O0) (by simp) V0 (by simp) (c_counted (pad16 (pad16 ([] ++ more) ++ b)) more.length A17 b17 c17 g17a g17b (by omega)) (by rintro _ _ ⟨A21, b21, c21, g21a, g21b, rfl, rfl⟩; rfl) ?_)
 rintro _ _ ⟨A21, b21, c21, g21a, g21b, rfl, rfl⟩
 refine At.p (some 22) (P_move rfl rfl) ?_
 refine At.p (some 23) (P_len_sl rfl rfl ⟨_, Tryd.underlying36⟩ rfl) ?_
 refine At.s (S_callR (some 24) [(10, _)] [] [10] (vs := [_, _]) rfl en48 rfl (ON rfl rfl O0) (by simp) V0 (by simp) (c_counted (cntTo (pad16 (pad16 ([] ++ more) ++ b)) more.length 8) b.length A21 b21 c21 g21a g21b (by omega)) (by rintro _ _ ⟨A24, b24, c24, g24a, g24b, rfl, rfl⟩; rfl) ?_)
 rintro _ _ ⟨A24, b24, c24, g24a, g24b, rfl, rfl⟩
 refine At.p (some 10) (P_assign rfl rfl) ?_
 refine At.nil ?_
 refine At.next ?_
 refine At.seq ?_
 refine At.region ?_
 refine At.p (some 25) (P_slice_arr1 (h := 32) rfl Tryd.underlying90 sz5 rfl rfl ⟨_, _, rfl, rfl⟩ rfl (by omega) (by omega) (by omega) (by omega)) ?_
 refine At.p (some 26) (P_s2a rfl Tryd.underlying22 rfl (by omega)) ?_
 refine At.q (some 27) (Q_loadN (k := 9) (j := 0) (cs := (ownK key nonce).map u8V) rfl rfl Tryd.underlying22 rfl sz22 rfl rfl rfl (by rw [List.drop_zero, ownK, List.map_take]) (by rw [List.length_map, ownK_len])) ?_
 refine At.p (some 28) (P_move rfl rfl) ?_
 refine At.s (S_callV (some 29) [(10, _)] [] (vs := [_, _]) rfl en49 rfl (VN (by simp) rfl View.all V0) (by simp) (c_TagN (key := ownK key nonce) (l := (cntTo (cntTo (pad16 (pad16 ([] ++ more) ++ b)) more.length 8) b.length 8)) (n := (cntTo (cntTo (pad16 (pad16 ([] ++ more) ++ b)) more.length 8) b.length 8).length) rfl (ownK_len _ _) (fun h => g24a (by omega)) g24b (by omega)) (by rintro _ _ ⟨rfl, rfl⟩; rfl) ?_)
 rintro _ _ ⟨rfl, rfl⟩
 refine At.s (S_storeA none (k := 8) (vs := _) rfl rfl rfl (by first | (rw [sz72]; simp <;> omega) | exact sz72) rfl WA WB rfl WC ?_)
 refine At.nil ?_
 refine At.next ?_
 refine At.ret ?_
 refine At.giveV (.inl rfl) [] (rows' := []) (ResV.cellA (k := 8) rfl rfl Tryd.underlying72 rfl sz72 (by rw [List.length_map, htl]) rfl) rfl (by simp) (by simp) ?_
 exact ⟨rfl, rfl⟩

theorem c_tagN {key nonce b more : List (BitVec 8)} {nb nm : Nat} {A A2 : Option Addr} {ca cb bq q br r : Nat} (hnb : b.length = nb) (hnm : more.length = nm) (hkey : key.length = 32) (hnonce : nonce.length = 12) (hA : 0 < nb → A = some ⟨bq, q, none⟩) (hB : 0 < nm → A2 = some ⟨br, r, none⟩) (hl : nb ≤ 100000) (hlm : nm ≤ 100000) :
  Con Tryd.prog 34 [aggK key, aggK nonce, .slice A nb ca, .slice A2 nm cb] [pRow bq q b, pRow br r more] (fun v rs => v = aggK (aTag key nonce b more) ∧ rs = []) := by
 subst hnb hnm
 exact c_tag key nonce b more A A2 ca cb bq q br r hkey hnonce hA hB hl hlm

theorem c_Seal (key nonce b more : List (BitVec 8)) (A A2 : Option Addr) (ca cb bq q br r : Nat) (hkey : key.length = 32) (hnonce : nonce.length = 12) (hA : 0 < b.length → A = some ⟨bq, q, none⟩) (hB : 0 < more.length → A2 = some ⟨br, r, none⟩) (hl : b.length ≤ 100000) (hlm : more.length ≤ 100000) :
  Con Tryd.prog 25 [aggK key, aggK nonce, .slice A b.length ca, .slice A2 more.length cb] [pRow bq q b, pRow br r more] (fun v rs => ∃ Aa ba ca', (0 < ca' → Aa = some ⟨ba, 0, none⟩) ∧ (sealS key nonce b more).length ≤ ca' ∧ v = .slice Aa (sealS key nonce b more).length ca' ∧ rs = [⟨true, ba, 0, 5, (sealS key nonce b more).map u8V, ca' - (sealS key nonce b more).length⟩]) := by
 refine Con.enter Tryd.func25 Tryd.ntmps25 (Nat.le_of_ble_eq_true rfl) rfl fun w => ?_
 refine At.seq ?_
 have hk32 : key.length = 32 := hkey
 have hn12 : nonce.length = 12 := hnonce
 have hsl : (streamS key 1#32 nonce b).length = b.length := streamS_len _ _ _ _
 have htl := aTag_len key nonce (streamS key 1#32 nonce b) more
 refine At.region ?_
 refine At.s (S_box (some 4) 4 (zs := key.map u8V) rfl rfl rfl (fun b4 => ?_))
 refine At.s (S_box (some 5) 5 (zs := nonce.map u8V) rfl rfl rfl (fun b5 => ?_))
 refine At.p (some 8) (P_assign rfl rfl) ?_
 refine At.nil ?_
 refine At.next ?_
 refine At.seq ?_
 refine At.region ?_
 refine At.q (some 11) (Q_loadA (k := 4) rfl rfl Tryd.underlying22 rfl sz22 WD rfl) ?_
 refine At.q (some 12) (Q_loadA (k := 5) rfl rfl Tryd.underlying39 rfl sz39 WD rfl) ?_
 refine At.p (some 13) (P_move rfl rfl) ?_
 refine At.s (S_callV (some 14) [(0, _)] [9] (vs := [_, _, _, _]) rfl en33 rfl (VN (by simp) rfl View.all V0) (by simp) (c_StreamN (key := key) (nonce := nonce) (count := 1#32) (l := b) (n := b.length) rfl hkey hnonce hA (by omega)) (by rintro _ _ ⟨A9, b9, c9, g9a, g9b, rfl, rfl⟩; rfl) ?_)
 rintro _ _ ⟨A9, b9, c9, g9a, g9b, rfl, rfl⟩
 refine At.p (some 9) (P_assign rfl rfl) ?_
 refine At.nil ?_
 refine At.next ?_
 refine At.seq ?_
 refine At.region ?_
 refine At.q (some 15) (Q_loadA (k := 4) rfl rfl Tryd.underlying22 rfl sz22 WD rfl) ?_
 refine At.q (some 16) (Q_loadA (k := 5) rfl rfl Tryd.underlying39 rfl sz39 WD rfl) ?_
 refine At.p (some 17) (P_move rfl rfl) ?_
 refine At.p (some 18) (P_move rfl rfl) ?_
 refine At.s (S_callV (some 19) [(9, _), (1, _)] [] (vs := [_, _, _, _]) rfl en34 rfl (VN (by simp) rfl View.all (VN (by simp) rfl View.all V0)) (by simp) (c_tagN (b := (streamS key 1#32 nonce b)) (nb := b.length) (nm := more.length) hsl rfl hkey hnonce (fun h => g9a (by omega)) hB hl hlm) (by rintro _ _ ⟨rfl, rfl⟩; rfl) ?_)
 rintro _ _ ⟨rfl, rfl⟩
 refine At.s (S_alloc (some 10) 10 (zs := (List.replicate 16 0#8).map u8V) rfl ze72 rfl (fun b10 => ?_))
 refine At.s (S_storeA none (k := 10) (vs := _) rfl rfl rfl (by first | (rw [sz72]; simp <;> omega) | exact sz72) rfl WA WB rfl WC ?_)
 refine At.nil ?_
 refine At.next ?_
 refine At.seq ?_
 refine At.region ?_
 refine At.p (some 20) (P_move rfl rfl) ?_
 refine At.p (some 21) (P_slice_arr1 rfl Tryd.underlying72 sz5 rfl rfl rfl rfl (by omega) (by omega) (by omega) (by omega)) ?_
 refine At.s (S_appendM (some 22) 9 (sealS key nonce b more) (f := u8V) (l := (streamS key 1#32 nonce b)) (L := aTag key nonce (streamS key 1#32 nonce b) more) rfl Tryd.underlying36 Tryd.underlying36 (.inr ⟨_, rfl⟩) sz5 by5 ze5 rfl rfl (fun h => ⟨g9a h, rfl⟩) hsl (by omega) (Src.row (k := 10) (j := 0) rfl (fun _ => rfl) (fun _ => ⟨rfl, rfl, rfl⟩) (by rw [List.drop_zero, List.take_of_length_le (by rw [List.length_map, aTag_len]; decide)]) (by rw [List.length_map, aTag_len])) (fun _ => rfl) (by omega) (by omega) rfl (aTag_len _ _ _ _) ?_)
 intro A22 b22 c22 g22a g22b
 refine At.p (some 8) (P_assign rfl rfl) ?_
 refine At.nil ?_
 refine At.next ?_
 refine At.ret ?_
 refine At.give (.inl rfl) [9] (rows' := [_]) (vs := [_]) rfl ⟨rfl, trivial⟩ rfl (by simp) (by simp) ⟨A22, b22, c22, g22a, g22b, rfl, rfl⟩

theorem c_SealN {key nonce b more : List (BitVec 8)} {nb nm : Nat} {A A2 : Option Addr} {ca cb bq q br r : Nat} (hnb : b.length = nb) (hnm : more.length = nm) (hkey : key.length = 32) (hnonce : nonce.length = 12) (hA : 0 < nb → A = some ⟨bq, q, none⟩) (hB : 0 < nm → A2 = some ⟨br, r, none⟩) (hl : nb ≤ 100000) (hlm : nm ≤ 100000) :
  Con Tryd.prog 25 [aggK key, aggK nonce, .slice A nb ca, .slice A2 nm cb] [pRow bq q b, pRow br r more] (fun v rs => ∃ Aa ba ca', (0 < ca' → Aa = some ⟨ba, 0, none⟩) ∧ (sealS key nonce b more).length ≤ ca' ∧ v = .slice Aa (sealS key nonce b more).length ca' ∧ rs = [⟨true, ba, 0, 5, (sealS key nonce b more).map u8V, ca' - (sealS key nonce b more).length⟩]) := by
 subst hnb hnm
 exact c_Seal key nonce b more A A2 ca cb bq q br r hkey hnonce hA hB hl hlm

theorem c_OpenS (key nonce b more : List (BitVec 8)) (A A2 : Option Addr) (ca cb bq q br r : Nat) (hkey : key.length = 32) (hnonce : nonce.length = 12) (hA : 0 < b.length → A = some ⟨bq, q, none⟩) (hB : 0 < more.length → A2 = some ⟨br, r, none⟩) (hl : b.length ≤ 100000) (hlm : more.length ≤ 100000) (hca : b.length ≤ ca) (hlen : b.length < 16) :
  Con Tryd.prog 27 [aggK key, aggK nonce, .slice A b.length ca, .slice A2 more.length cb] [pRow bq q b, pRow br r more] (fun v rs => v = .tuple #[.slice none 0 0, iV 2] ∧ rs = []) := by
 refine Con.enter Tryd.func27 Tryd.ntmps27 (Nat.le_of_ble_eq_true rfl) rfl fun w => ?_
 refine At.seq ?_
 have hk32 : key.length = 32 := hkey
 have hn12 : nonce.length = 12 := hnonce
 have hbt : (b.take (b.length - 16)).length = (b.length - 16) := by simp
 have htl := aTag_len key nonce (b.take (b.length - 16)) more
 refine At.region ?_
 refine At.s (S_box (some 4) 4 (zs := key.map u8V) rfl rfl rfl (fun b4 => ?_))
 refine At.s (S_box (some 5) 5 (zs := nonce.map u8V) rfl rfl rfl (fun b5 => ?_))
 refine At.p (some 8) (P_assign rfl rfl) ?_
 refine At.p (some 9) (P_assign rfl rfl) ?_
 refine At.nil ?_
 refine At.next ?_
 refine At.seq ?_
 refine At.region ?_
 refine At.p (some 12) (P_move rfl rfl) ?_
 refine At.p (some 13) (P_len_sl rfl rfl ⟨_, Tryd.underlying36⟩ rfl) ?_
 refine At.p (some 14) (P_sub_i rfl rfl rfl (by omega)) ?_
 refine At.p (some 10) (P_assign rfl rfl) ?_
 refine At.nil ?_
 refine At.next ?_
 refine At.seq ?_
 refine At.seq ?_
 refine At.region ?_
 refine At.p (some 15) (P_move rfl rfl) ?_
 refine At.p (some 16) (P_cmp rfl rfl rfl rfl rfl rfl) ?_
 refine At.nil ?_
 refine At.next ?_
 refine At.cond rfl (fun h16 => ?_) (fun h16 => by simp at h16; omega)
 refine At.seq ?_
 refine At.region ?_
 refine At.p (some 8) (P_assign rfl rfl) ?_
 refine At.p (some 9) (P_assign rfl rfl) ?_
 refine At.nil ?_
 refine At.next ?_
 refine At.ret ?_
 refine At.thn_r ?_
 refine At.give (.inl rfl) [] (rows' := []) (vs := [_, _]) rfl ⟨rfl, rfl, trivial⟩ rfl (by simp) (by simp) ⟨rfl, rfl⟩

theorem c_OpenB (key nonce b more : List (BitVec 8)) (A A2 : Option Addr) (ca cb bq q br r : Nat) (hkey : key.length = 32) (hnonce : nonce.length = 12) (hA : 0 < b.length → A = some ⟨bq, q, none⟩) (hB : 0 < more.length → A2 = some ⟨br, r, none⟩) (hl : b.length ≤ 100000) (hlm : more.length ≤ 100000) (hca : b.length ≤ ca) (hlen : 16 ≤ b.length) (hok : (aTag key nonce (b.take (b.length - 16)) more) ≠ (b.drop (b.length - 16))) :
  Con Tryd.prog 27 [aggK key, aggK nonce, .slice A b.length ca, .slice A2 more.length cb] [pRow bq q b, pRow br r more] (fun v rs => v = .tuple #[.slice none 0 0, iV 4] ∧ rs = []) := by
 refine Con.enter Tryd.func27 Tryd.ntmps27 (Nat.le_of_ble_eq_true rfl) rfl fun w => ?_
 refine At.seq ?_
 have hk32 : key.length = 32 := hkey
 have hn12 : nonce.length = 12 := hnonce
 have hbt : (b.take (b.length - 16)).length = (b.length - 16) := by simp
 have htl := aTag_len key nonce (b.take (b.length - 16)) more
 refine At.region ?_
 refine At.s (S_box (some 4) 4 (zs := key.map u8V) rfl rfl rfl (fun b4 => ?_))
 refine At.s (S_box (some 5) 5 (zs := nonce.map u8V) rfl rfl rfl (fun b5 => ?_))
 refine At.p (some 8) (P_assign rfl rfl) ?_
 refine At.p (some 9) (P_assign rfl rfl) ?_
 refine At.nil ?_
 refine At.next ?_
 refine At.seq ?_
 refine At.region ?_
 refine At.p (some 12) (P_move rfl rfl) ?_
 refine At.p (some 13) (P_len_sl rfl rfl ⟨_, Tryd.underlying36⟩ rfl) ?_
 refine At.p (some 14) (P_sub_i rfl rfl rfl (by omega)) ?_
 refine At.p (some 10) (P_assign rfl rfl) ?_
 refine At.nil ?_
 refine At.next ?_
 refine At.seq ?_
 refine At.seq ?_
 refine At.region ?_
 refine At.p (some 15) (P_move rfl rfl) ?_
 refine At.p (some 16) (P_cmp rfl rfl rfl rfl rfl rfl) ?_
 refine At.nil ?_
 refine At.next ?_
 refine At.cond rfl (fun h16 => by simp at h16; omega) (fun h16 => ?_)
 refine At.skip ?_
 refine At.next ?_
 refine At.seq ?_
 refine At.draws 8 [] [.q false [0, 1, 2, 3, 4, 5, 6], .e false 7] (by kernel_rfl) (by kernel_rfl) ?_
 refine At.wq (some 17) (Q_loadA (k := 4) rfl rfl Tryd.underlying22 rfl sz22 WD rfl) ?_
 refine At.wq (some 18) (Q_loadA (k := 5) rfl rfl Tryd.underlying39 rfl sz39 WD rfl) ?_
 refine At.wp (some 19) (P_move rfl rfl) ?_
 refine At.wp (some 20) (P_move rfl rfl) ?_
 refine At.wp (some 21) (P_slice_sl (h := (b.length - 16)) rfl Tryd.underlying36 sz5 rfl rfl ⟨_, _, rfl, by omega⟩ rfl (by omega) (by omega) (by omega)) ?_
 refine At.wp (some 22) (P_move rfl rfl) ?_
 refine At.wcV (some 23) [(0, _), (1, _)] (vs := [_, _, _, _]) rfl en34 rfl (VN (by simp) rfl (View.sub (j := 0) (m := (b.length - 16)) rfl rfl) (VN (by simp) rfl View.all V0)) (c_tagN (b := b.take (b.length - 16)) (nb := (b.length - 16)) (nm := more.length) hbt rfl hkey hnonce (fun h => cut_zero (hA (by omega))) hB (by omega) hlm) ?_
 refine At.wqn ?_
 refine At.we ?_
 refine S_alloc (some 11) 11 (zs := (List.replicate 16 0#8).map u8V) rfl ze72 rfl (fun b11 => ?_)
 refine At.wt rfl ?_
 refine At.s (S_storeA none (k := 11) (vs := _) rfl rfl rfl (by first | (rw [sz72]; simp <;> omega) | exact sz72) rfl WA WB rfl WC ?_)
 refine At.nil ?_
 refine At.next ?_
 refine At.seq ?_
 refine At.seq ?_
 refine At.draws 4 [] [.q false [0, 1, 2, 3]] (by kernel_rfl) (by kernel_rfl) ?_
 refine At.wp (some 24) (P_slice_arr1 rfl Tryd.underlying72 sz5 rfl rfl rfl rfl (by omega) (by omega) (by omega) (by omega)) ?_
 refine At.wp (some 25) (P_move rfl rfl) ?_
 refine At.wp (some 26) (P_move rfl rfl) ?_
 refine At.wp (some 27) (P_slice_sl (l := (b.length - 16)) rfl Tryd.underlying36 sz5 rfl ⟨_, _, rfl, by omega⟩ rfl rfl (by omega) (by omega) (by omega)) ?_
 refine At.wqn ?_
 refine At.wt rfl ?_
 refine At.s (S_callV (some 28) [(11, _), (0, _)] [] (vs := [_, _]) rfl en35 rfl (VN (by simp) rfl View.all (VN (by simp) rfl (View.sub (j := (b.length - 16)) (m := 16) rfl (by rw [List.take_of_length_le (by simp; omega)])) V0)) (by simp) (c_SameN (a := (aTag key nonce (b.take (b.length - 16)) more)) (b := (b.drop (b.length - 16))) (n := 16) (m := b.length - (b.length - 16)) htl (by simp) (fun _ => rfl) (fun h => cut_addr1 (hA (by omega)) (by omega)) (by decide)) (by rintro _ _ ⟨rfl, rfl⟩; rfl) ?_)
 rintro _ _ ⟨rfl, rfl⟩
 refine At.p (some 29) (P_not rfl rfl) ?_
 refine At.nil ?_
 refine At.next ?_
 refine At.cond rfl (fun h29 => ?_) (fun h29 => by simp at h29; exact absurd h29 hok)
 refine At.seq ?_
 refine At.region ?_
 refine At.p (some 8) (P_assign rfl rfl) ?_
 refine At.p (some 9) (P_assign rfl rfl) ?_
 refine At.nil ?_
 refine At.next ?_
 refine At.ret ?_
 refine At.thn_r ?_
 refine At.give (.inl rfl) [] (rows' := []) (vs := [_, _]) rfl ⟨rfl, rfl, trivial⟩ rfl (by simp) (by simp) ⟨rfl, rfl⟩

theorem c_OpenG (key nonce b more : List (BitVec 8)) (A A2 : Option Addr) (ca cb bq q br r : Nat) (hkey : key.length = 32) (hnonce : nonce.length = 12) (hA : 0 < b.length → A = some ⟨bq, q, none⟩) (hB : 0 < more.length → A2 = some ⟨br, r, none⟩) (hl : b.length ≤ 100000) (hlm : more.length ≤ 100000) (hca : b.length ≤ ca) (hlen : 16 ≤ b.length) (hok : (aTag key nonce (b.take (b.length - 16)) more) = (b.drop (b.length - 16))) :
  Con Tryd.prog 27 [aggK key, aggK nonce, .slice A b.length ca, .slice A2 more.length cb] [pRow bq q b, pRow br r more] (fun v rs => ∃ Aa ba ca', (0 < ca' → Aa = some ⟨ba, 0, none⟩) ∧ (b.length - 16) ≤ ca' ∧ v = .tuple #[.slice Aa (b.length - 16) ca', iV 0] ∧ rs = [⟨true, ba, 0, 5, (streamS key 1#32 nonce (b.take (b.length - 16))).map u8V, ca' - (b.length - 16)⟩]) := by
 refine Con.enter Tryd.func27 Tryd.ntmps27 (Nat.le_of_ble_eq_true rfl) rfl fun w => ?_
 refine At.seq ?_
 have hk32 : key.length = 32 := hkey
 have hn12 : nonce.length = 12 := hnonce
 have hbt : (b.take (b.length - 16)).length = (b.length - 16) := by simp
 have htl := aTag_len key nonce (b.take (b.length - 16)) more
 refine At.region ?_
 refine At.s (S_box (some 4) 4 (zs := key.map u8V) rfl rfl rfl (fun b4 => ?_))
 refine At.s (S_box (some 5) 5 (zs := nonce.map u8V) rfl rfl rfl (fun b5 => ?_))
 refine At.p (some 8) (P_assign rfl rfl) ?_
 refine At.p (some 9) (P_assign rfl rfl) ?_
 refine At.nil ?_
 refine At.next ?_
 refine At.seq ?_
 refine At.region ?_
 refine At.p (some 12) (P_move rfl rfl) ?_
 refine At.p (some 13) (P_len_sl rfl rfl ⟨_, Tryd.underlying36⟩ rfl) ?_
 refine At.p (some 14) (P_sub_i rfl rfl rfl (by omega)) ?_
 refine At.p (some 10) (P_assign rfl rfl) ?_
 refine At.nil ?_
 refine At.next ?_
 refine At.seq ?_
 refine At.seq ?_
 refine At.region ?_
 refine At.p (some 15) (P_move rfl rfl) ?_
 refine At.p (some 16) (P_cmp rfl rfl rfl rfl rfl rfl) ?_
 refine At.nil ?_
 refine At.next ?_
 refine At.cond rfl (fun h16 => by simp at h16; omega) (fun h16 => ?_)
 refine At.skip ?_
 refine At.next ?_
 refine At.seq ?_
 refine At.draws 8 [] [.q false [0, 1, 2, 3, 4, 5, 6], .e false 7] (by kernel_rfl) (by kernel_rfl) ?_
 refine At.wq (some 17) (Q_loadA (k := 4) rfl rfl Tryd.underlying22 rfl sz22 WD rfl) ?_
 refine At.wq (some 18) (Q_loadA (k := 5) rfl rfl Tryd.underlying39 rfl sz39 WD rfl) ?_
 refine At.wp (some 19) (P_move rfl rfl) ?_
 refine At.wp (some 20) (P_move rfl rfl) ?_
 refine At.wp (some 21) (P_slice_sl (h := (b.length - 16)) rfl Tryd.underlying36 sz5 rfl rfl ⟨_, _, rfl, by omega⟩ rfl (by omega) (by omega) (by omega)) ?_
 refine At.wp (some 22) (P_move rfl rfl) ?_
 refine At.wcV (some 23) [(0, _), (1, _)] (vs := [_, _, _, _]) rfl en34 rfl (VN (by simp) rfl (View.sub (j := 0) (m := (b.length - 16)) rfl rfl) (VN (by simp) rfl View.all V0)) (c_tagN (b := b.take (b.length - 16)) (nb := (b.length - 16)) (nm := more.length) hbt rfl hkey hnonce (fun h => cut_zero (hA (by omega))) hB (by omega) hlm) ?_
 refine At.wqn ?_
 refine At.we ?_
 refine S_alloc (some 11) 11 (zs := (List.replicate 16 0#8).map u8V) rfl ze72 rfl (fun b11 => ?_)
 refine At.wt rfl ?_
 refine At.s (S_storeA none (k := 11) (vs := _) rfl rfl rfl (by first | (rw [sz72]; simp <;> omega) | exact sz72) rfl WA WB rfl WC ?_)
 refine At.nil ?_
 refine At.next ?_
 refine At.seq ?_
 refine At.seq ?_
 refine At.draws 4 [] [.q false [0, 1, 2, 3]] (by kernel_rfl) (by kernel_rfl) ?_
 refine At.wp (some 24) (P_slice_arr1 rfl Tryd.underlying72 sz5 rfl rfl rfl rfl (by omega) (by omega) (by omega) (by omega)) ?_
 refine At.wp (some 25) (P_move rfl rfl) ?_
 refine At.wp (some 26) (P_move rfl rfl) ?_
 refine At.wp (some 27) (P_slice_sl (l := (b.length - 16)) rfl Tryd.underlying36 sz5 rfl ⟨_, _, rfl, by omega⟩ rfl rfl (by omega) (by omega) (by omega)) ?_
 refine At.wqn ?_
 refine At.wt rfl ?_
 refine At.s (S_callV (some 28) [(11, _), (0, _)] [] (vs := [_, _]) rfl en35 rfl (VN (by simp) rfl View.all (VN (by simp) rfl (View.sub (j := (b.length - 16)) (m := 16) rfl (by rw [List.take_of_length_le (by simp; omega)])) V0)) (by simp) (c_SameN (a := (aTag key nonce (b.take (b.length - 16)) more)) (b := (b.drop (b.length - 16))) (n := 16) (m := b.length - (b.length - 16)) htl (by simp) (fun _ => rfl) (fun h => cut_addr1 (hA (by omega)) (by omega)) (by decide)) (by rintro _ _ ⟨rfl, rfl⟩; rfl) ?_)
 rintro _ _ ⟨rfl, rfl⟩
 refine At.p (some 29) (P_not rfl rfl) ?_
 refine At.nil ?_
 refine At.next ?_
 refine At.cond rfl (fun h29 => by simp at h29; exact absurd hok h29) (fun h29 => ?_)
 refine At.skip ?_
 refine At.next ?_
 refine At.seq ?_
 refine At.draws 5 [] [.q false [0, 1, 2, 3, 4]] (by kernel_rfl) (by kernel_rfl) ?_
 refine At.wq (some 30) (Q_loadA (k := 4) rfl rfl Tryd.underlying22 rfl sz22 WD rfl) ?_
 refine At.wq (some 31) (Q_loadA (k := 5) rfl rfl Tryd.underlying39 rfl sz39 WD rfl) ?_
 refine At.wp (some 32) (P_move rfl rfl) ?_
 refine At.wp (some 33) (P_move rfl rfl) ?_
 refine At.wp (some 34) (P_slice_sl (h := (b.length - 16)) rfl Tryd.underlying36 sz5 rfl rfl ⟨_, _, rfl, by omega⟩ rfl (by omega) (by omega) (by omega)) ?_
 refine At.wqn ?_
 refine At.wt rfl ?_
 refine At.s (S_callV (some 35) [(0, _)] [35] (vs := [_, _, _, _]) rfl en33 rfl (VN (by simp) rfl (View.sub (j := 0) (m := (b.length - 16)) rfl rfl) V0) (by simp) (c_StreamN (key := key) (nonce := nonce) (count := 1#32) (l := b.take (b.length - 16)) (n := (b.length - 16)) hbt hkey hnonce (fun h => cut_zero (hA (by omega))) (by omega)) (by rintro _ _ ⟨A35, b35, c35, g35a, g35b, rfl, rfl⟩; rfl) ?_)
 rintro _ _ ⟨A35, b35, c35, g35a, g35b, rfl, rfl⟩
 refine At.p (some 8) (P_assign rfl rfl) ?_
 refine At.p (some 9) (P_assign rfl rfl) ?_
 refine At.nil ?_
 refine At.next ?_
 refine At.ret ?_
 refine At.give (.inl rfl) [35] (rows' := [_]) (vs := [_, _]) rfl ⟨rfl, rfl, trivial⟩ rfl (by simp) (by simp) ⟨A35, b35, c35, g35a, g35b, rfl, rfl⟩

theorem seal_take (key nonce text more : List (BitVec 8)) {n : Nat} (hn : n = text.length + 16) : (sealS key nonce text more).take (n - 16) = streamS key 1#32 nonce text := by
 subst hn
 rw [sealS, List.take_append_of_le_length (by rw [streamS_len]; omega), List.take_of_length_le (by rw [streamS_len]; omega)]
theorem seal_drop (key nonce text more : List (BitVec 8)) {n : Nat} (hn : n = text.length + 16) : (sealS key nonce text more).drop (n - 16) = aTag key nonce (streamS key 1#32 nonce text) more := by
 subst hn
 rw [sealS, List.drop_left' (by rw [streamS_len]; omega)]
theorem stream_seal (key nonce text more : List (BitVec 8)) {n : Nat} (hn : n = text.length + 16) : streamS key 1#32 nonce ((sealS key nonce text more).take (n - 16)) = text := by
 rw [seal_take _ _ _ _ hn, stream_twice]


def openOk (key nonce b more : List (BitVec 8)) : Bool := decide (16 ≤ b.length ∧ aTag key nonce (b.take (b.length - 16)) more = b.drop (b.length - 16))
def openT (key nonce b more : List (BitVec 8)) : List (BitVec 8) := if openOk key nonce b more then streamS key 1#32 nonce (b.take (b.length - 16)) else []
def openE (key nonce b more : List (BitVec 8)) : Int := if b.length < 16 then 2 else if openOk key nonce b more then 0 else 4
theorem openT_len (key nonce b more : List (BitVec 8)) : (openT key nonce b more).length ≤ b.length - 16 := by
 unfold openT
 split
 · rw [streamS_len, List.length_take]; omega
 · exact Nat.zero_le _
theorem openE_ok (key nonce b more : List (BitVec 8)) : (openE key nonce b more == 0) = openOk key nonce b more := by
 unfold openE
 split
 ·
  rename_i h
  have : openOk key nonce b more = false := decide_eq_false fun h2 => by have := h2.1; omega
  rw [this]; rfl
 · cases openOk key nonce b more <;> rfl
theorem open_seal (key nonce text more : List (BitVec 8)) : openOk key nonce (sealS key nonce text more) more = true := by
 have hl := sealS_len key nonce text more
 refine decide_eq_true ⟨by omega, ?_⟩
 rw [seal_take _ _ _ _ hl, seal_drop _ _ _ _ hl]
theorem openT_seal (key nonce text more : List (BitVec 8)) : openT key nonce (sealS key nonce text more) more = text := by
 have hl := sealS_len key nonce text more
 rw [openT, open_seal, if_pos rfl, stream_seal _ _ _ _ hl]
theorem c_OpenU {key nonce b more : List (BitVec 8)} {nb nm : Nat} {A A2 : Option Addr} {ca cb bq q br r : Nat} (hnb : b.length = nb) (hnm : more.length = nm) (hkey : key.length = 32) (hnonce : nonce.length = 12) (hA : 0 < nb → A = some ⟨bq, q, none⟩) (hB : 0 < nm → A2 = some ⟨br, r, none⟩) (hl : nb ≤ 100000) (hlm : nm ≤ 100000) (hca : nb ≤ ca) :
  Con Tryd.prog 27 [aggK key, aggK nonce, .slice A nb ca, .slice A2 nm cb] [pRow bq q b, pRow br r more] (fun v rs => ∃ Aa ba ca', (0 < ca' → Aa = some ⟨ba, 0, none⟩) ∧ (openT key nonce b more).length ≤ ca' ∧ v = .tuple #[.slice Aa (openT key nonce b more).length ca', iV (openE key nonce b more)] ∧ rs = [⟨true, ba, 0, 5, (openT key nonce b more).map u8V, ca' - (openT key nonce b more).length⟩]) := by
 subst hnb hnm
 by_cases h16 : b.length < 16
 ·
  have h1 : openOk key nonce b more = false := decide_eq_false fun h => by have := h.1; omega
  have h2 : openT key nonce b more = [] := by rw [openT, h1]; rfl
  have h3 : openE key nonce b more = 2 := by rw [openE, if_pos h16]
  rw [h2]
  exact Con.add0 0 5 (c_OpenS key nonce b more A A2 ca cb bq q br r hkey hnonce hA hB hl hlm hca h16) fun v rs h => ⟨h.2, none, 0, 0, fun h => absurd h (by decide), Nat.le_refl _, by rw [h.1, h3]; rfl, rfl⟩
 ·
  by_cases hok : aTag key nonce (b.take (b.length - 16)) more = b.drop (b.length - 16)
  ·
   have h1 : openOk key nonce b more = true := decide_eq_true ⟨by omega, hok⟩
   have h2 : openT key nonce b more = streamS key 1#32 nonce (b.take (b.length - 16)) := by rw [openT, h1]; rfl
   have h3 : openE key nonce b more = 0 := by rw [openE, if_neg h16, h1]; rfl
   have hl2 : (streamS key 1#32 nonce (b.take (b.length - 16))).length = b.length - 16 := by rw [streamS_len]; simp
   rw [h2]
   refine (c_OpenG key nonce b more A A2 ca cb bq q br r hkey hnonce hA hB hl hlm hca (by omega) hok).mono fun v rs h => ?_
   obtain ⟨Aa, ba, ca', g1, g2, g3, g4⟩ := h
   exact ⟨Aa, ba, ca', g1, by rw [hl2]; exact g2, by rw [g3, hl2, h3], by rw [g4, hl2]⟩
  ·
   have h1 : openOk key nonce b more = false := decide_eq_false fun h => hok h.2
   have h2 : openT key nonce b more = [] := by rw [openT, h1]; rfl
   have h3 : openE key nonce b more = 4 := by rw [openE, if_neg h16, h1]; rfl
   rw [h2]
   exact Con.add0 0 5 (c_OpenB key nonce b more A A2 ca cb bq q br r hkey hnonce hA hB hl hlm hca (by omega) hok) fun v rs h => ⟨h.2, none, 0, 0, fun h => absurd h (by decide), Nat.le_refl _, by rw [h.1, h3]; rfl, rfl⟩


end Go.Proofs.YtcjfkmhijfcciaaDoor

