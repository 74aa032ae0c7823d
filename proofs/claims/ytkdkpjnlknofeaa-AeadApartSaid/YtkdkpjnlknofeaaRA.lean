import Derived.Test.YtkdkpjnlknofeaaT3
import Derived.Test.YtkdkpjnlknofeaaE
import Derived.Test.YtkdkpjnlknofeaaPF
import Derived.Test.YtkdkpjnlknofeaaSE18
namespace Go.Proofs.Ytkdkpjnlknofeaa
set_option maxRecDepth 20000
set_option linter.unusedVariables false
set_option linter.unusedSimpArgs false
open Go.SE Go.RowKit

def padN (n : Nat) : Nat := (16 - n % 16) % 16
def padZ (l : List (BitVec 8)) : Nat → List (BitVec 8)
  | 0 => l
  | z + 1 => padZ l z ++ [0#8]
theorem padZ_eq (l : List (BitVec 8)) (z : Nat) : padZ l z = l ++ List.replicate z 0#8 := by
  induction z with
  | zero => simp [padZ]
  | succ z ih => rw [padZ, ih, List.replicate_succ', List.append_assoc]
theorem padZ_len (l : List (BitVec 8)) (z : Nat) : (padZ l z).length = l.length + z := by rw [padZ_eq]; simp
def pad16 (l : List (BitVec 8)) : List (BitVec 8) := padZ l (padN l.length)
theorem padN_lt (n : Nat) : padN n < 16 := Nat.mod_lt _ (by decide)
theorem pad16_len (l : List (BitVec 8)) : (pad16 l).length = l.length + padN l.length := padZ_len _ _
def cntTo (m : List (BitVec 8)) (n : Nat) : Nat → List (BitVec 8)
  | 0 => m
  | i + 1 => cntTo m n i ++ [(BitVec.ofInt 64 (n : Int) >>> (8 * i)).setWidth 8]
theorem cntTo_len (m : List (BitVec 8)) (n i : Nat) : (cntTo m n i).length = m.length + i := by
  induction i with
  | zero => rfl
  | succ i ih => rw [cntTo, List.length_append, ih]; rfl
def macIn (b more : List (BitVec 8)) : List (BitVec 8) := cntTo (cntTo (pad16 (pad16 more ++ b)) more.length 8) b.length 8
theorem macIn_len (b more : List (BitVec 8)) : (macIn b more).length ≤ b.length + more.length + 46 := by
  have h1 := padN_lt more.length
  have h2 := padN_lt (pad16 more ++ b).length
  rw [macIn, cntTo_len, cntTo_len, pad16_len, List.length_append, pad16_len] at *
  omega
def ownK (key nonce : List (BitVec 8)) : List (BitVec 8) := (blockS key 0#32 nonce).take 32
theorem ownK_len (key nonce : List (BitVec 8)) : (ownK key nonce).length = 32 := by rw [ownK, List.length_take, blockS_len]; rfl
def aTag (key nonce b more : List (BitVec 8)) : List (BitVec 8) := tagS (ownK key nonce) (macIn b more)
theorem aTag_len (key nonce b more : List (BitVec 8)) : (aTag key nonce b more).length = 16 := tagS_len _ _
def sealS (key nonce text more : List (BitVec 8)) : List (BitVec 8) := streamS key 1#32 nonce text ++ aTag key nonce (streamS key 1#32 nonce text) more
theorem sealS_len (key nonce text more : List (BitVec 8)) : (sealS key nonce text more).length = text.length + 16 := by rw [sealS, List.length_append, streamS_len, aTag_len]
def ownTo (key nonce : List (BitVec 8)) (i : Nat) : List (BitVec 8) := (List.range i).map (fun j => (blockS key 0#32 nonce).getD j 0#8) ++ List.replicate (32 - i) 0#8
theorem ownTo_len (key nonce : List (BitVec 8)) {i : Nat} (h : i ≤ 32) : (ownTo key nonce i).length = 32 := by simp [ownTo]; omega
theorem ownTo_set (key nonce : List (BitVec 8)) {i : Nat} (h : i < 32) : (ownTo key nonce i).set i ((blockS key 0#32 nonce).getD i 0#8) = ownTo key nonce (i + 1) := fill_set (fun j => (blockS key 0#32 nonce).getD j 0#8) 0#8 h
theorem ownTo_32 (key nonce : List (BitVec 8)) : ownTo key nonce 32 = ownK key nonce := by
  have hb := blockS_len key 0#32 nonce
  apply List.ext_getElem (by rw [ownTo_len _ _ (by decide), ownK_len])
  intro j h1 h2
  have h3 : j < 32 := by rwa [ownTo_len _ _ (by decide)] at h1
  simp [ownTo, ownK, h3, List.getD_eq_getElem?_getD, List.getElem?_eq_getElem (show j < (blockS key 0#32 nonce).length by omega)]

theorem same_step {a b : List (BitVec 8)} {i : Nat} {u : BitVec 8} (ha : i < a.length) (hb : i < b.length) (h : u = 0#8 ↔ a.take i = b.take i) : (u ||| (a.getD i 0#8 ^^^ b.getD i 0#8) = 0#8 ↔ a.take (i + 1) = b.take (i + 1)) := by
  rw [List.take_succ_eq_append_getElem ha, List.take_succ_eq_append_getElem hb, List.getD_eq_getElem?_getD, List.getD_eq_getElem?_getD, List.getElem?_eq_getElem ha, List.getElem?_eq_getElem hb]
  have hl : (a.take i).length = (b.take i).length := by simp; omega
  rw [BitVec.or_eq_zero_iff, h]
  constructor
  · rintro ⟨h1, h2⟩
    rw [h1]
    have : a[i] = b[i] := by simpa using BitVec.xor_eq_zero_iff.1 h2
    rw [this]
  · intro h1
    obtain ⟨h2, h3⟩ := List.append_inj h1 hl
    refine ⟨h2, ?_⟩
    have : a[i] = b[i] := by simpa using h3
    simp [this]

theorem c_Same (A A2 : Option Addr) (a b : List (BitVec 8)) (ca cb bq q br r : Nat) (hA : 0 < a.length → A = some ⟨bq, q, none⟩) (hB : 0 < b.length → A2 = some ⟨br, r, none⟩) (hl : a.length ≤ 281474976710656) :
    Con Try.prog 41 [.slice A a.length ca, .slice A2 b.length cb] [pRow bq q a, pRow br r b] (fun v rs => v = .bool (decide (a = b)) ∧ rs = []) := by
  refine Con.enter Try.func41 Try.ntmps41 (Nat.le_of_ble_eq_true rfl) rfl fun w => ?_
  refine At.seq ?_
  refine At.region ?_
  refine At.p (some 4) (P_assign rfl rfl) ?_
  refine At.nil ?_
  refine At.next ?_
  refine At.seq ?_
  refine At.seq ?_
  refine At.region ?_
  refine At.p (some 8) (P_move rfl rfl) ?_
  refine At.p (some 9) (P_len_sl rfl rfl ⟨_, Try.underlying31⟩ rfl) ?_
  refine At.p (some 10) (P_move rfl rfl) ?_
  refine At.p (some 11) (P_len_sl rfl rfl ⟨_, Try.underlying31⟩ rfl) ?_
  refine At.p (some 12) (P_cmp rfl rfl rfl rfl rfl rfl) ?_
  refine At.nil ?_
  refine At.next ?_
  refine At.cond rfl (fun h12 => ?_) (fun h12 => ?_)
  · -- cond 12 t
    have hne : a.length ≠ b.length := by
      intro hh
      rw [hh] at h12
      simp at h12
    refine At.seq ?_
    refine At.region ?_
    refine At.p (some 4) (P_assign rfl rfl) ?_
    refine At.nil ?_
    refine At.next ?_
    refine At.ret ?_
    refine At.thn_r ?_
    refine At.give (.inl rfl) [] (rows' := []) (vs := [_]) rfl ⟨rfl, trivial⟩ rfl (by simp) (by simp) ⟨congrArg Value.bool (by rw [decide_eq_false]; intro hh; exact hne (congrArg _ hh)), rfl⟩
  · -- cond 12 f
    have hle : a.length = b.length := by simp at h12; omega
    refine At.skip ?_
    refine At.next ?_
    refine At.seq ?_
    refine At.region ?_
    refine At.p (some 5) (P_assign rfl rfl) ?_
    refine At.nil ?_
    refine At.next ?_
    refine At.seq ?_
    refine At.seq ?_
    refine At.region ?_
    refine At.p (some 13) (P_move rfl rfl) ?_
    refine At.p (some 14) (P_len_sl rfl rfl ⟨_, Try.underlying31⟩ rfl) ?_
    refine At.p (some 15) (P_move rfl rfl) ?_
    refine At.nil ?_
    refine At.next ?_
    refine At.block ?_
    refine At.loopx (I := fun m fr H => ∃ (i : Nat) (u : BitVec 8), m = a.length - i ∧ fr = frOf [(1, .slice A2 b.length cb), (5, u8V u), (13, .slice A a.length ca), (14, iV (a.length : Int)), (15, iV (i : Int))] ∧ H = hOf [(0, pRow bq q a), (1, pRow br r b)] ∧ i ≤ a.length ∧ (u = 0#8 ↔ a.take i = b.take i)) ?_ ?_
    · intro Kc0 hKc0
      refine At.to [(1, _), (5, _), (13, _), (14, _), (15, _)] [(0, _), (1, _)] (AllL.cons_ (rfl) (AllL.cons_ (rfl) (AllL.cons_ (rfl) (AllL.cons_ (rfl) (AllL.cons_ (rfl) trivial))))) (AllL.cons_ (rfl) (AllL.cons_ (rfl) trivial)) ?_
      exact hKc0 _ _ _ ⟨0, 0#8, rfl, rfl, rfl, by omega, by simp⟩
    · rintro m fr H ⟨i, u, rfl, rfl, rfl, hi, hu⟩ Kc0 hKc0
      refine At.seq ?_
      refine At.region ?_
      refine At.p (some 16) (P_cmp rfl rfl rfl rfl rfl rfl) ?_
      refine At.nil ?_
      refine At.next ?_
      refine At.seq ?_
      refine At.cond rfl (fun h16 => ?_) (fun h16 => ?_)
      · -- cond 16 t
        have hlt : i < a.length := by simp at h16; omega
        refine At.skip ?_
        refine At.next ?_
        refine At.seq ?_
        refine At.block ?_
        refine At.seq ?_
        refine At.region ?_
        refine At.p (some 17) (P_move rfl rfl) ?_
        refine At.p (some 18) (P_indexAddr_sl1 rfl Try.underlying31 sz5 rfl (hA (by omega)) rfl rfl (by omega)) ?_
        refine At.q (some 19) (Q_loadR (l := a) (k := 0) (j := i) (0#8) rfl rfl Try.underlying5 rfl rfl rfl (by omega)) ?_
        refine At.p (some 6) (P_assign rfl rfl) ?_
        refine At.p (some 7) (P_assign rfl rfl) ?_
        refine At.nil ?_
        refine At.next ?_
        refine At.region ?_
        refine At.p (some 20) (P_move rfl rfl) ?_
        refine At.p (some 21) (P_move rfl rfl) ?_
        refine At.p (some 22) (P_move rfl rfl) ?_
        refine At.p (some 23) (P_move rfl rfl) ?_
        refine At.p (some 24) (P_indexAddr_sl1 rfl Try.underlying31 sz5 rfl (hB (by omega)) rfl rfl (by omega)) ?_
        refine At.q (some 25) (Q_loadR (l := b) (k := 1) (j := i) (0#8) rfl rfl Try.underlying5 rfl rfl rfl (by omega)) ?_
        refine At.p (some 26) (P_xor_w UK.u8 rfl rfl rfl) ?_
        refine At.p (some 27) (P_or_w UK.u8 rfl rfl rfl) ?_
        refine At.p (some 5) (P_assign rfl rfl) ?_
        refine At.nil ?_
        refine At.inb_n ?_
        refine At.next ?_
        refine At.region ?_
        refine At.p (some 28) (P_add_i rfl rfl rfl (by omega)) ?_
        refine At.p (some 15) (P_move rfl rfl) ?_
        refine At.nil ?_
        refine At.next ?_
        refine At.to [(1, _), (5, _), (13, _), (14, _), (15, _)] [(0, _), (1, _)] (AllL.cons_ (rfl) (AllL.cons_ (rfl) (AllL.cons_ (rfl) (AllL.cons_ (rfl) (AllL.cons_ (rfl) trivial))))) (AllL.cons_ (rfl) (AllL.cons_ (rfl) trivial)) ?_
        exact hKc0 _ _ _ (by omega) ⟨i + 1, _, rfl, rfl, rfl, by omega, same_step hlt (by omega) hu⟩
      · -- cond 16 f
        obtain rfl : i = a.length := by simp at h16; omega
        rw [List.take_length, hle, List.take_length] at hu
        refine At.exit ?_
        refine At.thn_e ?_
        refine At.thn_e ?_
        refine At.inb_hit ?_
        refine At.next ?_
        refine At.seq ?_
        refine At.region ?_
        refine At.p (some 29) (P_move rfl rfl) ?_
        refine At.p (some 30) (P_eql_w (n := 8) (b := 0#8) rfl rfl rfl) ?_
        refine At.p (some 4) (P_assign rfl rfl) ?_
        refine At.nil ?_
        refine At.next ?_
        refine At.ret ?_
        refine At.give (.inl rfl) [] (rows' := []) (vs := [_]) rfl ⟨rfl, trivial⟩ rfl (by simp) (by simp) ⟨congrArg Value.bool (by rw [Bool.eq_iff_iff]; simpa using hu), rfl⟩

theorem c_padded (p b : List (BitVec 8)) (A A2 : Option Addr) (b1 c1 ca bq q : Nat) (hA : 0 < c1 → A = some ⟨b1, 0, none⟩) (hc : p.length ≤ c1) (hB : 0 < b.length → A2 = some ⟨bq, q, none⟩) (hl : p.length + b.length ≤ 1000000) :
    Con Try.prog 50 [.slice A p.length c1, .slice A2 b.length ca] [⟨true, b1, 0, 5, p.map u8V, c1 - p.length⟩, pRow bq q b] (fun v rs => ∃ Aa ba ca', (0 < ca' → Aa = some ⟨ba, 0, none⟩) ∧ (pad16 (p ++ b)).length ≤ ca' ∧ v = .slice Aa (pad16 (p ++ b)).length ca' ∧ rs = [⟨true, ba, 0, 5, (pad16 (p ++ b)).map u8V, ca' - (pad16 (p ++ b)).length⟩]) := by
  refine Con.enter Try.func50 Try.ntmps50 (Nat.le_of_ble_eq_true rfl) rfl fun w => ?_
  refine At.seq ?_
  have hpb : (p ++ b).length = p.length + b.length := List.length_append
  refine At.region ?_
  refine At.p (some 4) (P_assign rfl rfl) ?_
  refine At.nil ?_
  refine At.next ?_
  refine At.seq ?_
  refine At.region ?_
  refine At.p (some 5) (P_move rfl rfl) ?_
  refine At.p (some 6) (P_move rfl rfl) ?_
  refine At.s (S_appendM (some 7) 0 (padZ (p ++ b) 0) (f := u8V) (l := p) (L := b) rfl Try.underlying31 Try.underlying31 (.inr ⟨_, rfl⟩) sz5 by5 ze5 rfl rfl (fun h => ⟨hA h, rfl⟩) rfl (by omega) (Src.row (k := 1) (j := 0) rfl hB (fun _ => ⟨rfl, rfl, rfl⟩) (by simp [pRow, List.take_of_length_le]) (by simp)) (fun _ => rfl) (by omega) (by omega) rfl rfl ?_)
  intro A0 b0 c0 hA0 hc0
  refine At.p (some 0) (P_assign rfl rfl) ?_
  refine At.nil ?_
  refine At.next ?_
  refine At.seq ?_
  refine At.block ?_
  refine At.loopx (I := fun m fr H => ∃ (z b0 c0 : Nat) (A0 : Option Addr), m = padN (p ++ b).length - z ∧ fr = frOf [(0, .slice A0 (padZ (p ++ b) z).length c0)] ∧ H = hOf [(0, ⟨true, b0, 0, 5, (padZ (p ++ b) z).map u8V, c0 - (padZ (p ++ b) z).length⟩)] ∧ z ≤ padN (p ++ b).length ∧ (0 < c0 → A0 = some ⟨b0, 0, none⟩) ∧ (padZ (p ++ b) z).length ≤ c0) ?_ ?_
  · intro Kc0 hKc0
    refine At.to [(0, _)] [(0, ⟨true, b0, 0, 5, (padZ (p ++ b) 0).map u8V, c0 - (padZ (p ++ b) 0).length⟩)] (AllL.cons_ (rfl) trivial) (AllL.cons_ (rfl) trivial) ?_
    exact hKc0 _ _ _ ⟨0, b0, c0, A0, rfl, rfl, rfl, by omega, hA0, hc0⟩
  · rintro m fr H ⟨z, b0, c0, A0, rfl, rfl, rfl, hz, hA0, hc0⟩ Kc0 hKc0
    refine At.seq ?_
    refine At.seq ?_
    refine At.region ?_
    refine At.p (some 8) (P_move rfl rfl) ?_
    refine At.p (some 9) (P_len_sl rfl rfl ⟨_, Try.underlying31⟩ rfl) ?_
    refine At.p (some 10) (P_rem_i rfl rfl rfl (by omega) (by first | decide | omega)) ?_
    refine At.p (some 11) (P_cmp rfl rfl rfl rfl rfl rfl) ?_
    refine At.nil ?_
    refine At.next ?_
    refine At.cond rfl (fun h11 => ?_) (fun h11 => ?_)
    · -- cond 11 t
      have hpl := padZ_len (p ++ b) z
      have hzl := padN_lt (p ++ b).length
      have hlt : z < padN (p ++ b).length := by
        have h2 : ¬ ((padZ (p ++ b) z).length : Int) % 16 = 0 := by simpa using h11
        unfold padN at *
        omega
      refine At.skip ?_
      refine At.next ?_
      refine At.block ?_
      refine At.region ?_
      refine At.p (some 12) (P_move rfl rfl) ?_
      refine At.s (S_buildSliceV (some 13) 13 ([0#8].map u8V) rfl Try.underlying31 sz5 ze5 rfl rfl (by decide) (by decide) rfl rfl (fun b13 => ?_))
      refine At.s (S_appendM (some 14) 0 (padZ (p ++ b) (z + 1)) (f := u8V) (l := padZ (p ++ b) z) (L := [0#8]) rfl Try.underlying31 Try.underlying31 (.inr ⟨_, rfl⟩) sz5 by5 ze5 rfl rfl (fun h => ⟨hA0 h, rfl⟩) rfl (by omega) (Src.row (k := 13) (j := 0) rfl (fun _ => rfl) (fun _ => ⟨rfl, rfl, rfl⟩) rfl rfl) (fun _ => rfl) (by omega) (by omega) rfl rfl ?_)
      intro A0 b0 c0 g1 g2
      refine At.p (some 0) (P_assign rfl rfl) ?_
      refine At.nil ?_
      refine At.inb_n ?_
      refine At.next ?_
      refine At.to [(0, _)] [(0, _)] (AllL.cons_ (rfl) trivial) (AllL.cons_ (rfl) trivial) ?_
      exact hKc0 _ _ _ (by omega) ⟨z + 1, _, _, _, rfl, rfl, rfl, by omega, g1, g2⟩
    · -- cond 11 f
      have hpl := padZ_len (p ++ b) z
      have h2 : ((padZ (p ++ b) z).length : Int) % 16 = 0 := by simpa using h11
      have hze : z = padN (p ++ b).length := by
        unfold padN at *
        omega
      subst hze
      refine At.exit ?_
      refine At.thn_e ?_
      refine At.thn_e ?_
      refine At.inb_hit ?_
      refine At.next ?_
      refine At.seq ?_
      refine At.region ?_
      refine At.p (some 15) (P_move rfl rfl) ?_
      refine At.p (some 4) (P_assign rfl rfl) ?_
      refine At.nil ?_
      refine At.next ?_
      refine At.ret ?_
      refine At.give (.inl rfl) [0] (rows' := [_]) (vs := [_]) rfl ⟨rfl, trivial⟩ rfl (by simp) (by simp) ⟨A0, b0, c0, hA0, hc0, rfl, rfl⟩

theorem c_paddedN {p b : List (BitVec 8)} {n : Nat} {A A2 : Option Addr} {b1 c1 ca bq q : Nat} (hn : b.length = n) (hA : 0 < c1 → A = some ⟨b1, 0, none⟩) (hc : p.length ≤ c1) (hB : 0 < n → A2 = some ⟨bq, q, none⟩) (hl : p.length + n ≤ 1000000) :
    Con Try.prog 50 [.slice A p.length c1, .slice A2 n ca] [⟨true, b1, 0, 5, p.map u8V, c1 - p.length⟩, pRow bq q b] (fun v rs => ∃ Aa ba ca', (0 < ca' → Aa = some ⟨ba, 0, none⟩) ∧ (pad16 (p ++ b)).length ≤ ca' ∧ v = .slice Aa (pad16 (p ++ b)).length ca' ∧ rs = [⟨true, ba, 0, 5, (pad16 (p ++ b)).map u8V, ca' - (pad16 (p ++ b)).length⟩]) := by
  subst hn
  exact c_padded p b A A2 b1 c1 ca bq q hA hc hB hl

theorem c_counted (p : List (BitVec 8)) (n : Nat) (A : Option Addr) (b1 c1 : Nat) (hA : 0 < c1 → A = some ⟨b1, 0, none⟩) (hc : p.length ≤ c1) (hl : p.length ≤ 1000000) :
    Con Try.prog 51 [.slice A p.length c1, iV (n : Int)] [⟨true, b1, 0, 5, p.map u8V, c1 - p.length⟩] (fun v rs => ∃ Aa ba ca', (0 < ca' → Aa = some ⟨ba, 0, none⟩) ∧ (cntTo p n 8).length ≤ ca' ∧ v = .slice Aa (cntTo p n 8).length ca' ∧ rs = [⟨true, ba, 0, 5, (cntTo p n 8).map u8V, ca' - (cntTo p n 8).length⟩]) := by
  refine Con.enter Try.func51 Try.ntmps51 (Nat.le_of_ble_eq_true rfl) rfl fun w => ?_
  refine At.seq ?_
  refine At.region ?_
  refine At.p (some 4) (P_assign rfl rfl) ?_
  refine At.nil ?_
  refine At.next ?_
  refine At.seq ?_
  refine At.seq ?_
  refine At.region ?_
  refine At.p (some 6) (P_move rfl rfl) ?_
  refine At.nil ?_
  refine At.next ?_
  refine At.block ?_
  refine At.loopx (I := fun m fr H => ∃ (i b0 c0 : Nat) (A0 : Option Addr), m = 8 - i ∧ fr = frOf [(0, .slice A0 (cntTo p n i).length c0), (1, iV (n : Int)), (6, iV (i : Int))] ∧ H = hOf [(0, ⟨true, b0, 0, 5, (cntTo p n i).map u8V, c0 - (cntTo p n i).length⟩)] ∧ i ≤ 8 ∧ (0 < c0 → A0 = some ⟨b0, 0, none⟩) ∧ (cntTo p n i).length ≤ c0) ?_ ?_
  · intro Kc0 hKc0
    refine At.to [(0, .slice A (cntTo p n 0).length c1), (1, _), (6, _)] [(0, ⟨true, b1, 0, 5, (cntTo p n 0).map u8V, c1 - (cntTo p n 0).length⟩)] (AllL.cons_ (rfl) (AllL.cons_ (rfl) (AllL.cons_ (rfl) trivial))) (AllL.cons_ (rfl) trivial) ?_
    exact hKc0 _ _ _ ⟨0, b1, c1, A, rfl, rfl, rfl, by omega, hA, hc⟩
  · rintro m fr H ⟨i, b0, c0, A0, rfl, rfl, rfl, hi, hA0, hc0⟩ Kc0 hKc0
    refine At.seq ?_
    refine At.region ?_
    refine At.p (some 7) (P_cmp rfl rfl rfl rfl rfl rfl) ?_
    refine At.nil ?_
    refine At.next ?_
    refine At.seq ?_
    refine At.cond rfl (fun h7 => ?_) (fun h7 => ?_)
    · -- cond 7 t
      have hlt : i < 8 := by simp at h7; omega
      have hcl := cntTo_len p n i
      refine At.skip ?_
      refine At.next ?_
      refine At.seq ?_
      refine At.block ?_
      refine At.seq ?_
      refine At.region ?_
      refine At.p (some 8) (P_move rfl rfl) ?_
      refine At.p (some 5) (P_assign rfl rfl) ?_
      refine At.nil ?_
      refine At.next ?_
      refine At.region ?_
      refine At.p (some 9) (P_move rfl rfl) ?_
      refine At.p (some 10) (P_move rfl rfl) ?_
      refine At.p (some 11) (P_conv_iw UK.u64 rfl Try.underlying3 Try.underlying29 rfl) ?_
      refine At.p (some 12) (P_move rfl rfl) ?_
      refine At.p (some 13) (P_mul_i rfl rfl rfl (by omega)) ?_
      refine At.p (some 14) (P_shr_w UK.u64 (n := 64) rfl rfl rfl (by first | decide | omega)) ?_
      refine At.p (some 15) (P_conv_ww UK.u8 (m := 64) rfl Try.underlying29 Try.underlying5 rfl) ?_
      refine At.s (S_buildSliceV (some 16) 16 ([(BitVec.ofInt 64 (n : Int) >>> (8 * (i : Int)).toNat).setWidth 8].map u8V) rfl Try.underlying31 sz5 ze5 rfl rfl (by decide) (by decide) rfl rfl (fun b16 => ?_))
      refine At.s (S_appendM (some 17) 0 (cntTo p n (i + 1)) (f := u8V) (l := cntTo p n i) (L := [(BitVec.ofInt 64 (n : Int) >>> (8 * (i : Int)).toNat).setWidth 8]) rfl Try.underlying31 Try.underlying31 (.inr ⟨_, rfl⟩) sz5 by5 ze5 rfl rfl (fun h => ⟨hA0 h, rfl⟩) rfl (by omega) (Src.row (k := 16) (j := 0) rfl (fun _ => rfl) (fun _ => ⟨rfl, rfl, rfl⟩) rfl rfl) (fun _ => rfl) (by omega) (by omega) (by rw [show (8 * (i : Int)).toNat = 8 * i by omega]; rfl) rfl ?_)
      intro A0 b0 c0 g1 g2
      refine At.p (some 0) (P_assign rfl rfl) ?_
      refine At.nil ?_
      refine At.inb_n ?_
      refine At.next ?_
      refine At.region ?_
      refine At.p (some 18) (P_add_i rfl rfl rfl (by omega)) ?_
      refine At.p (some 6) (P_move rfl rfl) ?_
      refine At.nil ?_
      refine At.next ?_
      refine At.to [(0, _), (1, _), (6, _)] [(0, _)] (AllL.cons_ (rfl) (AllL.cons_ (rfl) (AllL.cons_ (rfl) trivial))) (AllL.cons_ (rfl) trivial) ?_
      exact hKc0 _ _ _ (by omega) ⟨i + 1, _, _, _, rfl, rfl, rfl, by omega, g1, g2⟩
    · -- cond 7 f
      obtain rfl : i = 8 := by simp at h7; omega
      refine At.exit ?_
      refine At.thn_e ?_
      refine At.thn_e ?_
      refine At.inb_hit ?_
      refine At.next ?_
      refine At.seq ?_
      refine At.region ?_
      refine At.p (some 19) (P_move rfl rfl) ?_
      refine At.p (some 4) (P_assign rfl rfl) ?_
      refine At.nil ?_
      refine At.next ?_
      refine At.ret ?_
      refine At.give (.inl rfl) [0] (rows' := [_]) (vs := [_]) rfl ⟨rfl, trivial⟩ rfl (by simp) (by simp) ⟨A0, b0, c0, hA0, hc0, rfl, rfl⟩

theorem c_tag (key nonce b more : List (BitVec 8)) (A A2 : Option Addr) (ca cb bq q br r : Nat) (hkey : key.length = 32) (hnonce : nonce.length = 12) (hA : 0 < b.length → A = some ⟨bq, q, none⟩) (hB : 0 < more.length → A2 = some ⟨br, r, none⟩) (hl : b.length ≤ 100000) (hlm : more.length ≤ 100000) :
    Con Try.prog 40 [aggK key, aggK nonce, .slice A b.length ca, .slice A2 more.length cb] [pRow bq q b, pRow br r more] (fun v rs => v = aggK (aTag key nonce b more) ∧ rs = []) := by
  refine Con.enter Try.func40 Try.ntmps40 (Nat.le_of_ble_eq_true rfl) rfl fun w => ?_
  refine At.seq ?_
  have hk32 : key.length = 32 := hkey
  have hn12 : nonce.length = 12 := hnonce
  have hbl := blockS_len key 0#32 nonce
  have hml := macIn_len b more
  have h1 := padN_lt ([] ++ more).length
  have h2 := padN_lt (pad16 ([] ++ more) ++ b).length
  have h3 := pad16_len ([] ++ more)
  have h4 := pad16_len (pad16 ([] ++ more) ++ b)
  have h5 : (pad16 ([] ++ more) ++ b).length = (pad16 ([] ++ more)).length + b.length := List.length_append
  have h6 : ([] ++ more).length = more.length := rfl
  have h7 := cntTo_len (pad16 (pad16 ([] ++ more) ++ b)) more.length 8
  have h8 := cntTo_len (cntTo (pad16 (pad16 ([] ++ more) ++ b)) more.length 8) b.length 8
  have htl := tagS_len (ownK key nonce) (cntTo (cntTo (pad16 (pad16 ([] ++ more) ++ b)) more.length 8) b.length 8)
  refine At.region ?_
  refine At.s (S_box (some 4) 4 (zs := key.map u8V) rfl rfl rfl (fun b4 => ?_))
  refine At.s (S_box (some 5) 5 (zs := nonce.map u8V) rfl rfl rfl (fun b5 => ?_))
  refine At.s (S_alloc (some 8) 8 (zs := (List.replicate 16 0#8).map u8V) rfl ze36 rfl (fun b8 => ?_))
  refine At.nil ?_
  refine At.next ?_
  refine At.seq ?_
  refine At.region ?_
  refine At.q (some 11) (Q_loadA (k := 4) rfl rfl Try.underlying22 rfl sz22 (by first | omega | (simp <;> omega)) rfl) ?_
  refine At.q (some 12) (Q_loadA (k := 5) rfl rfl Try.underlying24 rfl sz24 (by first | omega | (simp <;> omega)) rfl) ?_
  refine At.s (S_callV (some 13) [] [] (vs := [_, _, _]) rfl en16 rfl V0 (by simp) (c_Block key nonce 0#32 hkey hnonce) (by rintro _ _ ⟨rfl, rfl⟩; rfl) ?_)
  rintro _ _ ⟨rfl, rfl⟩
  refine At.s (S_alloc (some 9) 9 (zs := (List.replicate 64 0#8).map u8V) rfl ze26 rfl (fun b9 => ?_))
  refine At.s (S_storeA none (k := 9) (vs := _) rfl rfl rfl (by first | (rw [sz26]; simp <;> omega) | exact sz26) rfl (by first | (intro u hu; obtain ⟨z, _, rfl⟩ := List.mem_map.1 hu; rfl) | simp [Value.oneCell']) (by first | (simp; done) | (intro h; have h2 := congrArg List.length h; simp only [List.length_map, List.length_nil] at h2; omega) | (intro h; cases h)) rfl (by first | omega | (simp <;> omega) | rfl | (simp [*]; done)) ?_)
  refine At.nil ?_
  refine At.next ?_
  refine At.seq ?_
  refine At.region ?_
  refine At.p (some 14) (P_move rfl rfl) ?_
  refine At.empty 10 0 5 ?_
  refine At.s (S_callR (some 15) [(10, _)] [(1, _)] [10] (vs := [_, _]) rfl en50 rfl (ON rfl rfl O0) (by simp) (VN (by simp) rfl View.all V0) (by simp) (c_padded [] more none A2 0 0 cb br r (fun h => absurd h (by decide)) (by decide) hB (by simp; omega)) (by rintro _ _ ⟨A15, b15, c15, g15a, g15b, rfl, rfl⟩; rfl) ?_)
  rintro _ _ ⟨A15, b15, c15, g15a, g15b, rfl, rfl⟩
  refine At.p (some 16) (P_move rfl rfl) ?_
  refine At.s (S_callR (some 17) [(10, _)] [(0, _)] [10] (vs := [_, _]) rfl en50 rfl (ON rfl rfl O0) (by simp) (VN (by simp) rfl View.all V0) (by simp) (c_padded (pad16 ([] ++ more)) b A15 A b15 c15 ca bq q g15a g15b hA (by omega)) (by rintro _ _ ⟨A17, b17, c17, g17a, g17b, rfl, rfl⟩; rfl) ?_)
  rintro _ _ ⟨A17, b17, c17, g17a, g17b, rfl, rfl⟩
  refine At.p (some 10) (P_assign rfl rfl) ?_
  refine At.nil ?_
  refine At.next ?_
  refine At.seq ?_
  refine At.region ?_
  refine At.p (some 18) (P_move rfl rfl) ?_
  refine At.p (some 19) (P_move rfl rfl) ?_
  refine At.p (some 20) (P_len_sl rfl rfl ⟨_, Try.underlying31⟩ rfl) ?_
  refine At.s (S_callR (some 21) [(10, _)] [] [10] (vs := [_, _]) rfl en51 rfl (ON rfl rfl O0) (by simp) V0 (by simp) (c_counted (pad16 (pad16 ([] ++ more) ++ b)) more.length A17 b17 c17 g17a g17b (by omega)) (by rintro _ _ ⟨A21, b21, c21, g21a, g21b, rfl, rfl⟩; rfl) ?_)
  rintro _ _ ⟨A21, b21, c21, g21a, g21b, rfl, rfl⟩
  refine At.p (some 22) (P_move rfl rfl) ?_
  refine At.p (some 23) (P_len_sl rfl rfl ⟨_, Try.underlying31⟩ rfl) ?_
  refine At.s (S_callR (some 24) [(10, _)] [] [10] (vs := [_, _]) rfl en51 rfl (ON rfl rfl O0) (by simp) V0 (by simp) (c_counted (cntTo (pad16 (pad16 ([] ++ more) ++ b)) more.length 8) b.length A21 b21 c21 g21a g21b (by omega)) (by rintro _ _ ⟨A24, b24, c24, g24a, g24b, rfl, rfl⟩; rfl) ?_)
  rintro _ _ ⟨A24, b24, c24, g24a, g24b, rfl, rfl⟩
  refine At.p (some 10) (P_assign rfl rfl) ?_
  refine At.nil ?_
  refine At.next ?_
  refine At.seq ?_
  refine At.region ?_
  refine At.p (some 25) (P_slice_arr1 (h := 32) rfl Try.underlying26 sz5 rfl rfl ⟨_, _, rfl, rfl⟩ rfl (by omega) (by omega) (by omega) (by omega)) ?_
  refine At.p (some 26) (P_s2a rfl Try.underlying22 rfl (by omega)) ?_
  refine At.q (some 27) (Q_loadN (k := 9) (j := 0) (cs := (ownK key nonce).map u8V) rfl rfl Try.underlying22 rfl sz22 rfl rfl rfl (by rw [List.drop_zero, ownK, List.map_take]) (by rw [List.length_map, ownK_len])) ?_
  refine At.p (some 28) (P_move rfl rfl) ?_
  refine At.s (S_callV (some 29) [(10, _)] [] (vs := [_, _]) rfl en21 rfl (VN (by simp) rfl View.all V0) (by simp) (c_TagN (key := ownK key nonce) (l := (cntTo (cntTo (pad16 (pad16 ([] ++ more) ++ b)) more.length 8) b.length 8)) (n := (cntTo (cntTo (pad16 (pad16 ([] ++ more) ++ b)) more.length 8) b.length 8).length) rfl (ownK_len _ _) (fun h => g24a (by omega)) g24b (by omega)) (by rintro _ _ ⟨rfl, rfl⟩; rfl) ?_)
  rintro _ _ ⟨rfl, rfl⟩
  refine At.s (S_storeA none (k := 8) (vs := _) rfl rfl rfl (by first | (rw [sz36]; simp <;> omega) | exact sz36) rfl (by first | (intro u hu; obtain ⟨z, _, rfl⟩ := List.mem_map.1 hu; rfl) | simp [Value.oneCell']) (by first | (simp; done) | (intro h; have h2 := congrArg List.length h; simp only [List.length_map, List.length_nil] at h2; omega) | (intro h; cases h)) rfl (by first | omega | (simp <;> omega) | rfl | (simp [*]; done)) ?_)
  refine At.nil ?_
  refine At.next ?_
  refine At.ret ?_
  refine At.giveV (.inl rfl) [] (rows' := []) (ResV.cellA (k := 8) rfl rfl Try.underlying36 rfl sz36 (by rw [List.length_map, htl]) rfl) rfl (by simp) (by simp) ?_
  exact ⟨rfl, rfl⟩
end Go.Proofs.Ytkdkpjnlknofeaa
