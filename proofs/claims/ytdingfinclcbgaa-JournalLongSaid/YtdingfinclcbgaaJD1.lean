import Derived.Test.YtdingfinclcbgaaXT2
import Derived.Test.YtdingfinclcbgaaXS2
import Derived.Test.YtdingfinclcbgaaG1
namespace Go.Proofs.Ytdingfinclcbgaa
set_option maxRecDepth 20000
set_option linter.unusedVariables false
set_option linter.unusedSimpArgs false
open Go.SE Go.RowKit
structure DM where
 S : List (BitVec 8)
 n : Nat
 off : Bool
 till : Int
 torn : Nat
 wr : Int
def rowD (o : Bool) (b : Nat) (A : Option Addr) (n c : Nat) (off : Bool) (till : Int) (torn : Nat) (writes : Int) : Row := ⟨o, b, 0, 71, [.slice A n c, .bool off, iV till, iV torn, iV writes], 0⟩
def rowS (o : Bool) (b : Nat) (S : List (BitVec 8)) (rest : Nat) : Row := ⟨o, b, 0, 74, S.map u8V, rest⟩
def bytesRow (b s : Nat) (l : List (BitVec 8)) : Row := ⟨false, b, s, 0, l.map u8V, 0⟩
def DM.row (d : DM) (o : Bool) (b bs c : Nat) : Row := rowD o b (some ⟨bs, 0, none⟩) d.n c d.off d.till d.torn d.wr
def DM.rows (d : DM) (b bs c rest : Nat) : List Row := [d.row true b bs c, rowS true bs d.S rest]
def DM.Ok (d : DM) : Prop := d.S.length = d.n * 64 ∧ d.torn ≤ 64 ∧ -1 ≤ d.till ∧ d.till ≤ 9223372036854775807 ∧ 0 ≤ d.wr ∧ d.wr ≤ 4611686018427387904 ∧ d.n ≤ 512 ∧ 1 ≤ d.n
def mayE (off : Bool) (n : Nat) (i : Int) : Int := if off then 6 else if i < 0 ∨ (n : Int) ≤ i then 1 else 0
theorem mayE_no {off : Bool} {n : Nat} {i : Int} (h : (mayE off n i != 0) = false) : off = false ∧ 0 ≤ i ∧ i < n := by
 unfold mayE at h
 split at h
 · cases h
 ·
  split at h
  · cases h
  ·
   rename_i h1 h2
   exact ⟨by simpa using h1, by omega, by omega⟩
def DM.sector (d : DM) (k : Nat) : List (BitVec 8) := (d.S.drop (k * 64)).take 64
def DM.write (d : DM) (i : Int) (l : List (BitVec 8)) : DM × Int :=
 if mayE d.off d.n i ≠ 0 then (d, mayE d.off d.n i)
 else if l.length ≠ 64 then (d, 1)
 else if d.till = 0 then ({ d with S := splice d.S (i.toNat * 64) (l.take d.torn), off := true, till := -1, wr := d.wr + 1 }, 6)
 else ({ d with S := splice d.S (i.toNat * 64) l, till := max (d.till - 1) (-1), wr := d.wr + 1 }, 0)
def DM.up (d : DM) : DM := { d with off := false, till := -1 }
def DM.new (n : Nat) : DM := ⟨List.replicate (n * 64) 0, n, false, -1, 0, 0⟩
theorem c_may (b : Nat) (A : Option Addr) (n c : Nat) (off : Bool) (till : Int) (torn : Nat) (writes i : Int) :
  Con Try.prog 40 [ptr b 0, iV i] [rowD false b A n c off till torn writes] (fun v rs => v = iV (mayE off n i) ∧ rs = []) := by
 refine Con.enter Try.func40 Try.ntmps40 (Nat.le_of_ble_eq_true rfl) rfl fun w => ?_
 refine At.seq ?_
 refine At.region ?_
 refine At.p (some 4) (P_assign rfl rfl) ?_
 refine At.nil ?_
 refine At.next ?_
 refine At.seq ?_
 refine At.block ?_
 refine At.seq ?_
 refine At.region ?_
 refine At.p (some 6) (P_move rfl rfl) ?_
 refine At.p (some 7) (P_eql_ptr rfl rfl rfl Try.underlying23) ?_
 refine At.p (some 5) (P_assign rfl rfl) ?_
 refine At.nil ?_
 refine At.next ?_
 refine At.cond rfl (fun h5 => by simp at h5) (fun h5 => ?_)
 refine At.seq ?_
 refine At.region ?_
 refine At.p (some 9) (P_move rfl rfl) ?_
 refine At.p (some 10) (P_nilCheck rfl rfl) ?_
 refine At.p (some 11) (P_fieldAddr0 (off := 1) rfl Try.underlying71 rfl sz4 rfl rfl) ?_
 refine At.q (some 12) (Q_loadO (k := 0) rfl rfl Try.underlying4 rfl rfl rfl) ?_
 refine At.p (some 8) (P_assign rfl rfl) ?_
 refine At.nil ?_
 refine At.next ?_
 refine At.cond rfl (fun h8 => ?_) (fun h8 => ?_)
 · -- cond 8 t
  refine At.seq ?_
  refine At.region ?_
  refine At.p (some 4) (P_assign rfl rfl) ?_
  refine At.nil ?_
  refine At.next ?_
  refine At.ret ?_
  refine At.inb_r ?_
  refine At.thn_r ?_
  refine At.give (.inl rfl) [] (rows' := []) (vs := [_]) rfl ⟨rfl, trivial⟩ rfl (by simp) (by simp) ⟨congrArg iV ?_, rfl⟩
  simp at *
  simp [mayE, *] <;> omega
 · -- cond 8 f
  refine At.seq ?_
  refine At.region ?_
  refine At.p (some 14) (P_move rfl rfl) ?_
  refine At.p (some 15) (P_cmp rfl rfl rfl rfl rfl rfl) ?_
  refine At.p (some 16) (P_move rfl rfl) ?_
  refine At.gsplit (t := 16) (want := false) rfl (fun g1 => ?_) (fun g1 => ?_)
  ·
   refine At.gy (t := 16) rfl g1 rfl rfl ?_
   refine At.p (some 17) (P_move rfl rfl) ?_
   refine At.gy (t := 16) rfl g1 rfl rfl ?_
   refine At.p (some 18) (P_move rfl rfl) ?_
   refine At.gy (t := 16) rfl g1 rfl rfl ?_
   refine At.p (some 19) (P_nilCheck rfl rfl) ?_
   refine At.gy (t := 16) rfl g1 rfl rfl ?_
   refine At.p (some 20) (P_fieldAddr0 (off := 0) rfl Try.underlying71 rfl sz69 rfl rfl) ?_
   refine At.gy (t := 16) rfl g1 rfl rfl ?_
   refine At.q (some 21) (Q_loadO (k := 0) rfl rfl Try.underlying69 rfl rfl rfl) ?_
   refine At.gy (t := 16) rfl g1 rfl rfl ?_
   refine At.p (some 22) (P_len_sl rfl rfl ⟨_, Try.underlying69⟩ rfl) ?_
   refine At.gy (t := 16) rfl g1 rfl rfl ?_
   refine At.p (some 23) (P_cmp rfl rfl rfl rfl rfl rfl) ?_
   refine At.p (some 24) (P_pick_f rfl rfl g1 rfl) ?_
   refine At.p (some 13) (P_assign rfl rfl) ?_
   refine At.nil ?_
   refine At.next ?_
   refine At.cond rfl (fun h13 => ?_) (fun h13 => ?_)
   · -- cond 13 t
    refine At.seq ?_
    refine At.region ?_
    refine At.p (some 4) (P_assign rfl rfl) ?_
    refine At.nil ?_
    refine At.next ?_
    refine At.ret ?_
    refine At.inb_r ?_
    refine At.thn_r ?_
    refine At.give (.inl rfl) [] (rows' := []) (vs := [_]) rfl ⟨rfl, trivial⟩ rfl (by simp) (by simp) ⟨congrArg iV ?_, rfl⟩
    simp at *
    simp [mayE, *] <;> omega
   · -- cond 13 f
    refine At.skip ?_
    refine At.inb_n ?_
    refine At.next ?_
    refine At.seq ?_
    refine At.region ?_
    refine At.p (some 4) (P_assign rfl rfl) ?_
    refine At.nil ?_
    refine At.next ?_
    refine At.ret ?_
    refine At.give (.inl rfl) [] (rows' := []) (vs := [_]) rfl ⟨rfl, trivial⟩ rfl (by simp) (by simp) ⟨congrArg iV ?_, rfl⟩
    simp at *
    simp [mayE, *] <;> omega
  ·
   refine At.gn (some 17) (t := 16) rfl g1 rfl rfl ?_
   refine At.gn (some 18) (t := 16) rfl g1 rfl rfl ?_
   refine At.gn (some 19) (t := 16) rfl g1 rfl rfl ?_
   refine At.gn (some 20) (t := 16) rfl g1 rfl rfl ?_
   refine At.gn (some 21) (t := 16) rfl g1 rfl rfl ?_
   refine At.gn (some 22) (t := 16) rfl g1 rfl rfl ?_
   refine At.gn (some 23) (t := 16) rfl g1 rfl rfl ?_
   refine At.p (some 24) (P_pick_t rfl rfl g1 rfl) ?_
   refine At.p (some 13) (P_assign rfl rfl) ?_
   refine At.nil ?_
   refine At.next ?_
   refine At.cond rfl (fun _ => ?_) (fun h => absurd (h.symm.trans rfl) (by decide))
   refine At.seq ?_
   refine At.region ?_
   refine At.p (some 4) (P_assign rfl rfl) ?_
   refine At.nil ?_
   refine At.next ?_
   refine At.ret ?_
   refine At.inb_r ?_
   refine At.thn_r ?_
   refine At.give (.inl rfl) [] (rows' := []) (vs := [_]) rfl ⟨rfl, trivial⟩ rfl (by simp) (by simp) ⟨congrArg iV ?_, rfl⟩
   simp at *
   simp [mayE, *] <;> omega

theorem c_New (n : Nat) (h1 : 1 ≤ n) (h2 : n ≤ 512) :
  Con Try.prog 9 [iV n] [] (fun v rs => ∃ b bs, v = .tuple #[ptr b 0, iV 0] ∧ rs = (DM.new n).rows b bs n 0) := by
 refine Con.enter Try.func9 Try.ntmps9 (Nat.le_of_ble_eq_true rfl) rfl fun w => ?_
 refine At.seq ?_
 refine At.region ?_
 refine At.p (some 2) (P_assign rfl rfl) ?_
 refine At.p (some 3) (P_assign rfl rfl) ?_
 refine At.nil ?_
 refine At.next ?_
 refine At.seq ?_
 refine At.seq ?_
 refine At.region ?_
 refine At.p (some 4) (P_move rfl rfl) ?_
 refine At.p (some 5) (P_cmp rfl rfl rfl rfl rfl rfl) ?_
 refine At.p (some 6) (P_move rfl rfl) ?_
 refine At.gy (t := 6) rfl (by simp; omega) rfl rfl ?_
 refine At.p (some 7) (P_move rfl rfl) ?_
 refine At.gy (t := 6) rfl (by simp; omega) rfl rfl ?_
 refine At.p (some 8) (P_cmp rfl rfl rfl rfl rfl rfl) ?_
 refine At.p (some 9) (P_pick_f rfl rfl (by simp; omega) rfl) ?_
 refine At.nil ?_
 refine At.next ?_
 refine At.cond rfl (fun h9 => by simp at *; omega) (fun h9 => ?_)
 refine At.skip ?_
 refine At.next ?_
 refine At.seq ?_
 refine At.region ?_
 refine At.p (some 10) (P_move rfl rfl) ?_
 refine At.s (S_makeN (some 11) 0 (n := n) (cs := (List.replicate (n * 64) 0#8).map u8V) rfl Try.underlying69 sz74 by74 ze74 rfl rfl (by omega) (by omega) (by omega) (by omega) ((made_repl 63 _).trans (by rw [List.map_replicate]; rfl)) (fun b0 => ?_))
 refine At.p (some 12) (P_build_struct (parts := _) (vs := [(0, _), (2, _)]) rfl Try.underlying71 ze71 pl71 rfl rfl) ?_
 refine At.s (S_box (some 13) 1 rfl rfl rfl (fun b1 => ?_))
 refine At.p (some 2) (P_assign rfl rfl) ?_
 refine At.p (some 3) (P_assign rfl rfl) ?_
 refine At.nil ?_
 refine At.next ?_
 refine At.ret ?_
 refine At.give (.inl rfl) [1, 0] (rows' := [_, _]) (vs := [_, _]) rfl ⟨rfl, rfl, trivial⟩ rfl (by simp) (by simp [DM.rows, DM.row, rowD, rowS, DM.new]) ⟨b1, b0, rfl, rfl⟩

theorem c_Size (d : DM) (b bs c : Nat) :
  Con Try.prog 18 [ptr b 0] [d.row false b bs c] (fun v rs => v = iV d.n ∧ rs = []) := by
 refine Con.enter Try.func18 Try.ntmps18 (Nat.le_of_ble_eq_true rfl) rfl fun w => ?_
 refine At.seq ?_
 refine At.region ?_
 refine At.p (some 2) (P_assign rfl rfl) ?_
 refine At.nil ?_
 refine At.next ?_
 refine At.seq ?_
 refine At.seq ?_
 refine At.region ?_
 refine At.p (some 3) (P_move rfl rfl) ?_
 refine At.p (some 4) (P_eql_ptr rfl rfl rfl Try.underlying23) ?_
 refine At.nil ?_
 refine At.next ?_
 refine At.cond rfl (fun h4 => by simp at h4) (fun h4 => ?_)
 refine At.skip ?_
 refine At.next ?_
 refine At.seq ?_
 refine At.region ?_
 refine At.p (some 5) (P_move rfl rfl) ?_
 refine At.p (some 6) (P_nilCheck rfl rfl) ?_
 refine At.p (some 7) (P_fieldAddr0 (off := 0) rfl Try.underlying71 rfl sz69 rfl rfl) ?_
 refine At.q (some 8) (Q_loadO (k := 0) rfl rfl Try.underlying69 rfl rfl rfl) ?_
 refine At.p (some 9) (P_len_sl rfl rfl ⟨_, Try.underlying69⟩ rfl) ?_
 refine At.p (some 2) (P_assign rfl rfl) ?_
 refine At.nil ?_
 refine At.next ?_
 refine At.ret ?_
 refine At.give (.inl rfl) [] (rows' := []) (vs := [_]) rfl ⟨rfl, trivial⟩ rfl (by simp) (by simp) ⟨rfl, rfl⟩

theorem c_CloneB (A : Option Addr) (n c bq q s0 s1 : Nat) (cs : List Value) (hA : 0 < n → A = some ⟨bq, q, none⟩) (hl : cs.length = n * 1) (h1 : ∀ u ∈ cs, u.oneCell' = true) (hn : n ≤ 1000000) :
  Con Try.prog 41 [.slice A n c] [⟨false, bq, q, s0, cs, s1⟩] (fun v rs => ∃ A' b' c', (0 < c' → A' = some ⟨b', 0, none⟩) ∧ n ≤ c' ∧ v = .slice A' n c' ∧ rs = [⟨true, b', 0, 5, cs, (c' - n) * 1⟩]) := by
 refine Con.enter Try.func41 Try.ntmps41 (Nat.le_of_ble_eq_true rfl) rfl fun w => ?_
 refine At.seq ?_
 refine At.region ?_
 refine At.p (some 2) (P_assign rfl rfl) ?_
 refine At.nil ?_
 refine At.next ?_
 refine At.seq ?_
 refine At.seq ?_
 refine At.region ?_
 refine At.p (some 3) (P_move rfl rfl) ?_
 refine At.p (some 4) (P_eql_slnil rfl Try.underlying27 rfl rfl) ?_
 refine At.nil ?_
 refine At.next ?_
 refine At.cond rfl (fun h4 => ?_) (fun h4 => ?_)
 · -- cond 4 t
  refine At.seq ?_
  refine At.region ?_
  refine At.p (some 2) (P_assign rfl rfl) ?_
  refine At.nil ?_
  refine At.next ?_
  refine At.ret ?_
  refine At.thn_r ?_
  have hn : n = 0 := Nat.eq_zero_of_not_pos (fun h => by have h2 := hA h; subst h2; cases h4)
  have hc : cs = [] := List.eq_nil_of_length_eq_zero (by simp [hl, hn])
  subst hn hc
  refine At.empty 1 0 5 ?_
  refine At.give (.inl rfl) [1] (rows' := [_]) (vs := [_]) rfl ⟨rfl, trivial⟩ rfl (by simp) (by simp) ⟨none, 0, 0, by simp, by simp, rfl, rfl⟩
 · -- cond 4 f
  refine At.skip ?_
  refine At.next ?_
  refine At.seq ?_
  refine At.region ?_
  refine At.s (S_buildSlice0 (some 5) 1 rfl Try.underlying27 sz5 (fun b1 => ?_))
  refine At.p (some 6) (P_move rfl rfl) ?_
  refine At.s (S_appendN (some 7) 1 n cs (cells := []) (rest := 0) (b := b1) rfl Try.underlying27 Try.underlying27 (.inr ⟨_, rfl⟩) sz5 by5 ze5 rfl rfl (fun h => absurd h (by omega)) rfl rfl (by omega) (Src.row (k := 0)  (b := bq) (q := q) rfl hA (fun _ => ⟨rfl, rfl, rfl⟩) (by rw [List.drop_zero, ← hl, List.take_length]) hl) h1 (by decide) (by omega) (by omega) (by omega) rfl ?_)
  intro A1 b1 c1 g1 g2
  refine At.p (some 2) (P_assign rfl rfl) ?_
  refine At.nil ?_
  refine At.next ?_
  refine At.ret ?_
  refine At.give (.inl rfl) [1] (rows' := [_]) (vs := [_]) rfl ⟨rfl, trivial⟩ rfl (by simp) (by simp) ⟨A1, b1, c1, g1, g2, rfl, rfl⟩

theorem c_Write0 (S : List (BitVec 8)) (n0 : Nat) (off : Bool) (till : Int) (torn : Nat) (wr : Int) (hok : (DM.mk S n0 off till torn wr).Ok) (b bs c rest : Nat) (hc : n0 ≤ c) (i : Int) (A : Option Addr) (ca bq q : Nat) (l : List (BitVec 8)) (hA : 0 < l.length → A = some ⟨bq, q, none⟩) :
  Con Try.prog 11 [ptr b 0, iV i, .slice A l.length ca] [rowD true b (some ⟨bs, 0, none⟩) n0 c off till torn wr, rowS true bs S rest, bytesRow bq q l] (fun v rs => v = iV ((DM.mk S n0 off till torn wr).write i l).2 ∧ rs = ((DM.mk S n0 off till torn wr).write i l).1.rows b bs c rest) := by
 obtain ⟨hS, ht, ht1, ht2, hw1, hw2, hn1, hn2⟩ := hok
 dsimp only at hS ht ht1 ht2 hw1 hw2 hn1 hn2
 refine Con.enter Try.func11 Try.ntmps11 (Nat.le_of_ble_eq_true rfl) rfl fun w => ?_
 refine At.seq ?_
 refine At.region ?_
 refine At.p (some 6) (P_assign rfl rfl) ?_
 refine At.nil ?_
 refine At.next ?_
 refine At.seq ?_
 refine At.seq ?_
 refine At.region ?_
 refine At.p (some 8) (P_move rfl rfl) ?_
 refine At.p (some 9) (P_move rfl rfl) ?_
 refine At.s (S_callV (some 10) [(0, _)] [] (vs := [_, _]) rfl en40 rfl (VN (by simp) rfl View.all V0) (by simp) (c_may _ _ _ _ _ _ _ _ _) (by rintro _ _ ⟨rfl, rfl⟩; rfl) ?_)
 rintro _ _ ⟨rfl, rfl⟩
 refine At.p (some 7) (P_assign rfl rfl) ?_
 refine At.nil ?_
 refine At.next ?_
 refine At.seq ?_
 refine At.region ?_
 refine At.p (some 11) (P_move rfl rfl) ?_
 refine At.p (some 12) (P_cmp rfl rfl rfl rfl rfl rfl) ?_
 refine At.nil ?_
 refine At.next ?_
 refine At.cond rfl (fun h12 => ?_) (fun h12 => ?_)
 · -- cond 12 t
  refine At.seq ?_
  refine At.region ?_
  refine At.p (some 13) (P_move rfl rfl) ?_
  refine At.p (some 6) (P_assign rfl rfl) ?_
  refine At.nil ?_
  refine At.next ?_
  refine At.ret ?_
  refine At.thn_r ?_
  refine At.give (.inl rfl) [0, 1] (vs := [_]) rfl ⟨rfl, trivial⟩ (rows' := DM.rows ⟨S, n0, off, till, torn, wr⟩ b bs c rest) rfl (by simp) (by simp [DM.rows, DM.row, rowD, rowS]) ⟨?_, ?_⟩
  ·
   have : mayE off n0 i ≠ 0 := by simpa using h12
   simp [DM.write, this, retV]
  ·
   have : mayE off n0 i ≠ 0 := by simpa using h12
   simp [DM.write, this]
 · -- cond 12 f
  obtain ⟨rfl, hi0, hin⟩ := mayE_no h12
  obtain ⟨k, rfl⟩ := Int.eq_ofNat_of_zero_le hi0
  have hk : k < n0 := by omega
  have hm0 : mayE false n0 (k : Int) = 0 := by simpa using h12
  refine At.skip ?_
  refine At.next ?_
  refine At.seq ?_
  refine At.seq ?_
  refine At.region ?_
  refine At.p (some 14) (P_move rfl rfl) ?_
  refine At.p (some 15) (P_len_sl rfl rfl ⟨_, Try.underlying27⟩ rfl) ?_
  refine At.p (some 16) (P_cmp rfl rfl rfl rfl rfl rfl) ?_
  refine At.nil ?_
  refine At.next ?_
  refine At.cond rfl (fun h16 => ?_) (fun h16 => ?_)
  · -- cond 16 t
   have hl0 : l.length ≠ 64 := by simp at h16; omega
   refine At.seq ?_
   refine At.region ?_
   refine At.p (some 6) (P_assign rfl rfl) ?_
   refine At.nil ?_
   refine At.next ?_
   refine At.ret ?_
   refine At.thn_r ?_
   refine At.give (.inl rfl) [0, 1] (vs := [_]) rfl ⟨rfl, trivial⟩ (rows' := DM.rows ⟨S, n0, false, till, torn, wr⟩ b bs c rest) rfl (by simp) (by simp [DM.rows, DM.row, rowD, rowS]) ⟨?_, ?_⟩
   · simp [DM.write, hm0, hl0, retV]
   · simp [DM.write, hm0, hl0]
  · -- cond 16 f
   have hl : l.length = 64 := by simp at h16; omega
   refine At.skip ?_
   refine At.next ?_
   refine At.seq ?_
   refine At.region ?_
   refine At.p (some 17) (P_move rfl rfl) ?_
   refine At.p (some 18) (P_nilCheck rfl rfl) ?_
   refine At.p (some 19) (P_fieldAddr0 (off := 4) rfl Try.underlying71 rfl sz3 rfl rfl) ?_
   refine At.q (some 20) (Q_loadO (k := 0) rfl rfl Try.underlying3 rfl rfl rfl) ?_
   refine At.p (some 21) (P_add_i rfl rfl rfl (by omega)) ?_
   refine At.p (some 22) (P_nilCheck rfl rfl) ?_
   refine At.p (some 23) (P_fieldAddr0 (off := 4) rfl Try.underlying71 rfl sz3 rfl rfl) ?_
   refine At.s (S_store none (k := 0) rfl rfl rfl sz3 rfl rfl rfl WD ?_)
   refine At.nil ?_
   refine At.next ?_
   refine At.seq ?_
   refine At.seq ?_
   refine At.region ?_
   refine At.p (some 24) (P_move rfl rfl) ?_
   refine At.p (some 25) (P_nilCheck rfl rfl) ?_
   refine At.p (some 26) (P_fieldAddr0 (off := 2) rfl Try.underlying71 rfl sz3 rfl rfl) ?_
   refine At.q (some 27) (Q_loadO (k := 0) rfl rfl Try.underlying3 rfl rfl rfl) ?_
   refine At.p (some 28) (P_cmp rfl rfl rfl rfl rfl rfl) ?_
   refine At.nil ?_
   refine At.next ?_
   refine At.cond rfl (fun h28 => ?_) (fun h28 => ?_)
   · -- cond 28 t
    have h2t : till = 0 := by simpa using h28
    refine At.seq ?_
    refine At.region ?_
    refine At.p (some 29) (P_move rfl rfl) ?_
    refine At.p (some 30) (P_move rfl rfl) ?_
    refine At.p (some 31) (P_nilCheck rfl rfl) ?_
    refine At.p (some 32) (P_fieldAddr0 (off := 1) rfl Try.underlying71 rfl sz4 rfl rfl) ?_
    refine At.s (S_store none (k := 0) rfl rfl rfl sz4 rfl rfl rfl WD ?_)
    refine At.p (some 33) (P_nilCheck rfl rfl) ?_
    refine At.p (some 34) (P_fieldAddr0 (off := 2) rfl Try.underlying71 rfl sz3 rfl rfl) ?_
    refine At.s (S_store none (k := 0) rfl rfl rfl sz3 rfl rfl rfl WD ?_)
    refine At.nil ?_
    refine At.next ?_
    refine At.seq ?_
    refine At.draws 12 [] [.q false [0, 1, 2, 3, 4, 5, 6, 7, 8, 9, 10, 11]] (by kernel_rfl) (by kernel_rfl) ?_
    refine At.wp (some 35) (P_move rfl rfl) ?_
    refine At.wp (some 36) (P_nilCheck rfl rfl) ?_
    refine At.wp (some 37) (P_fieldAddr0 (off := 0) rfl Try.underlying71 rfl sz69 rfl rfl) ?_
    refine At.wq (some 38) (Q_loadO (k := 0) rfl rfl Try.underlying69 rfl rfl rfl) ?_
    refine At.wp (some 39) (P_move rfl rfl) ?_
    refine At.wp (some 40) (P_indexAddr_sl rfl Try.underlying69 sz74 rfl rfl rfl rfl (by omega)) ?_
    refine At.wp (some 41) (P_move rfl rfl) ?_
    refine At.wp (some 42) (P_nilCheck rfl rfl) ?_
    refine At.wp (some 43) (P_fieldAddr0 (off := 3) rfl Try.underlying71 rfl sz3 rfl rfl) ?_
    refine At.wq (some 44) (Q_loadO (k := 0) rfl rfl Try.underlying3 rfl rfl rfl) ?_
    refine At.wp (some 45) (P_slice_arr (h := torn) rfl Try.underlying74 sz5 rfl rfl ⟨_, _, rfl, by omega⟩ rfl (by omega) (by omega) (by omega) (by omega)) ?_
    refine At.wp (some 46) (P_move rfl rfl) ?_
    refine At.wqn ?_
    refine At.wt rfl ?_
    refine At.s (S_copyM (some 47) 1 2 (j := 0) (n := torn) (L := l.take torn) (p := 0 + k * 64 + 0 * 1) (m := l.length) rfl Try.underlying27 sz5 rfl (fun _ => rfl) rfl rfl (fun h => hA (by omega)) (fun h => ⟨rfl, rfl, rfl⟩) (by simp [bytesRow, List.map_take]) (by omega) (by simp; omega) (fun _ => rfl) (by omega) ?_)
    refine At.nil ?_
    refine At.next ?_
    refine At.seq ?_
    refine At.region ?_
    refine At.p (some 6) (P_assign rfl rfl) ?_
    refine At.nil ?_
    refine At.next ?_
    refine At.ret ?_
    refine At.thn_r ?_
    refine At.give (.inl rfl) [0, 1] (vs := [_]) rfl ⟨rfl, trivial⟩ (rows' := DM.rows ⟨splice S (k * 64) (l.take torn), n0, true, -1, torn, wr + 1⟩ b bs c rest) (by simp only [DM.rows, DM.row, rowD, rowS, Nat.zero_add, Nat.zero_mul, Nat.add_zero]; rfl) (by simp) (by simp [DM.rows, DM.row, rowD, rowS]) ⟨?_, ?_⟩
    · simp [DM.write, hm0, hl, h2t, retV]
    · simp [DM.write, hm0, hl, h2t]
   · -- cond 28 f
    have h2t : ¬ till = 0 := by simpa using h28
    refine At.skip ?_
    refine At.next ?_
    refine At.seq ?_
    refine At.region ?_
    refine At.p (some 48) (P_move rfl rfl) ?_
    refine At.p (some 49) (P_move rfl rfl) ?_
    refine At.p (some 50) (P_nilCheck rfl rfl) ?_
    refine At.p (some 51) (P_fieldAddr0 (off := 2) rfl Try.underlying71 rfl sz3 rfl rfl) ?_
    refine At.q (some 52) (Q_loadO (k := 0) rfl rfl Try.underlying3 rfl rfl rfl) ?_
    refine At.p (some 53) (P_sub_i rfl rfl rfl (by omega)) ?_
    refine At.p (some 54) (P_max2 rfl rfl rfl rfl) ?_
    refine At.p (some 55) (P_nilCheck rfl rfl) ?_
    refine At.p (some 56) (P_fieldAddr0 (off := 2) rfl Try.underlying71 rfl sz3 rfl rfl) ?_
    refine At.s (S_store none (k := 0) rfl rfl rfl sz3 rfl rfl rfl WD ?_)
    refine At.nil ?_
    refine At.next ?_
    refine At.seq ?_
    refine At.region ?_
    refine At.p (some 57) (P_move rfl rfl) ?_
    refine At.p (some 58) (P_nilCheck rfl rfl) ?_
    refine At.p (some 59) (P_fieldAddr0 (off := 0) rfl Try.underlying71 rfl sz69 rfl rfl) ?_
    refine At.q (some 60) (Q_loadO (k := 0) rfl rfl Try.underlying69 rfl rfl rfl) ?_
    refine At.p (some 61) (P_move rfl rfl) ?_
    refine At.p (some 62) (P_indexAddr_sl rfl Try.underlying69 sz74 rfl rfl rfl rfl (by omega)) ?_
    refine At.p (some 63) (P_slice_arr rfl Try.underlying74 sz5 rfl rfl rfl rfl (by omega) (by omega) (by omega) (by omega)) ?_
    refine At.p (some 64) (P_move rfl rfl) ?_
    refine At.s (S_copyM (some 65) 1 2 (j := 0) (n := 64) (L := l) (p := 0 + k * 64 + 0 * 1) (m := l.length) rfl Try.underlying27 sz5 rfl (fun _ => rfl) rfl rfl (fun h => hA (by omega)) (fun h => ⟨rfl, rfl, rfl⟩) (by rw [← hl]; simp [bytesRow, List.take_of_length_le]) (by omega) (by omega) (fun _ => rfl) (by omega) ?_)
    refine At.nil ?_
    refine At.next ?_
    refine At.seq ?_
    refine At.region ?_
    refine At.p (some 6) (P_assign rfl rfl) ?_
    refine At.nil ?_
    refine At.next ?_
    refine At.ret ?_
    refine At.give (.inl rfl) [0, 1] (vs := [_]) rfl ⟨rfl, trivial⟩ (rows' := DM.rows ⟨splice S (k * 64) l, n0, false, max (till - 1) (-1), torn, wr + 1⟩ b bs c rest) (by simp only [DM.rows, DM.row, rowD, rowS, Nat.zero_add, Nat.zero_mul, Nat.add_zero]; rfl) (by simp) (by simp [DM.rows, DM.row, rowD, rowS]) ⟨?_, ?_⟩
    · simp [DM.write, hm0, hl, h2t, retV]
    · simp [DM.write, hm0, hl, h2t]

theorem c_Write (d : DM) (hok : d.Ok) (b bs c rest : Nat) (hc : d.n ≤ c) (i : Int) (A : Option Addr) (ca bq q : Nat) (l : List (BitVec 8)) (hA : 0 < l.length → A = some ⟨bq, q, none⟩) :
  Con Try.prog 11 [ptr b 0, iV i, .slice A l.length ca] (d.rows b bs c rest ++ [bytesRow bq q l]) (fun v rs => v = iV (d.write i l).2 ∧ rs = (d.write i l).1.rows b bs c rest) :=
 c_Write0 d.S d.n d.off d.till d.torn d.wr hok b bs c rest hc i A ca bq q l hA

def DM.read (d : DM) (i : Int) : List (BitVec 8) × Int := if mayE d.off d.n i ≠ 0 then ([], mayE d.off d.n i) else (d.sector i.toNat, 0)

theorem c_Read (d : DM) (hok : d.Ok) (b bs c rest : Nat) (hc : d.n ≤ c) (i e : Int) (l : List (BitVec 8)) (hr : d.read i = (l, e)) :
  Con Try.prog 13 [ptr b 0, iV i] [d.row false b bs c, rowS false bs d.S rest] (fun v rs => ∃ A' b' c', (0 < c' → A' = some ⟨b', 0, none⟩) ∧ l.length ≤ c' ∧ v = .tuple #[.slice A' l.length c', iV e] ∧ rs = [⟨true, b', 0, 5, l.map u8V, c' - l.length⟩]) := by
 obtain ⟨hS, ht, ht1, ht2, hw1, hw2, hn1, hn2⟩ := hok
 refine Con.enter Try.func13 Try.ntmps13 (Nat.le_of_ble_eq_true rfl) rfl fun w => ?_
 refine At.seq ?_
 refine At.region ?_
 refine At.p (some 4) (P_assign rfl rfl) ?_
 refine At.p (some 5) (P_assign rfl rfl) ?_
 refine At.nil ?_
 refine At.next ?_
 refine At.seq ?_
 refine At.seq ?_
 refine At.region ?_
 refine At.p (some 7) (P_move rfl rfl) ?_
 refine At.p (some 8) (P_move rfl rfl) ?_
 refine At.s (S_callV (some 9) [(0, _)] [] (vs := [_, _]) rfl en40 rfl (VN (by simp) rfl View.all V0) (by simp) (c_may _ _ _ _ _ _ _ _ _) (by rintro _ _ ⟨rfl, rfl⟩; rfl) ?_)
 rintro _ _ ⟨rfl, rfl⟩
 refine At.p (some 6) (P_assign rfl rfl) ?_
 refine At.nil ?_
 refine At.next ?_
 refine At.seq ?_
 refine At.region ?_
 refine At.p (some 10) (P_move rfl rfl) ?_
 refine At.p (some 11) (P_cmp rfl rfl rfl rfl rfl rfl) ?_
 refine At.nil ?_
 refine At.next ?_
 refine At.cond rfl (fun h11 => ?_) (fun h11 => ?_)
 · -- cond 11 t
  have hm : mayE d.off d.n i ≠ 0 := by simpa using h11
  simp only [DM.read, if_pos hm, Prod.mk.injEq] at hr
  obtain ⟨rfl, rfl⟩ := hr
  refine At.seq ?_
  refine At.region ?_
  refine At.p (some 12) (P_move rfl rfl) ?_
  refine At.p (some 4) (P_assign rfl rfl) ?_
  refine At.p (some 5) (P_assign rfl rfl) ?_
  refine At.nil ?_
  refine At.next ?_
  refine At.ret ?_
  refine At.thn_r ?_
  refine At.empty 3 0 5 ?_
  refine At.give (.inl rfl) [3] (rows' := [_]) (vs := [_, _]) rfl ⟨rfl, rfl, trivial⟩ rfl (by simp) (by simp) ⟨none, 0, 0, by simp, by simp, rfl, rfl⟩
 · -- cond 11 f
  obtain ⟨hoff, hi0, hin⟩ := mayE_no h11
  have hm : ¬ mayE d.off d.n i ≠ 0 := by simpa using h11
  obtain ⟨k, rfl⟩ := Int.eq_ofNat_of_zero_le hi0
  have hk : k < d.n := by omega
  simp only [DM.read, if_neg hm, Prod.mk.injEq, Int.toNat_natCast] at hr
  obtain ⟨rfl, rfl⟩ := hr
  have hlen : (d.sector k).length = 64 := by simp [DM.sector]; omega
  refine At.skip ?_
  refine At.next ?_
  refine At.seq ?_
  refine At.region ?_
  refine At.p (some 13) (P_move rfl rfl) ?_
  refine At.p (some 14) (P_nilCheck rfl rfl) ?_
  refine At.p (some 15) (P_fieldAddr0 (off := 0) rfl Try.underlying71 rfl sz69 rfl rfl) ?_
  refine At.q (some 16) (Q_loadO (k := 0) rfl rfl Try.underlying69 rfl rfl rfl) ?_
  refine At.p (some 17) (P_move rfl rfl) ?_
  refine At.p (some 18) (P_indexAddr_sl rfl Try.underlying69 sz74 rfl rfl rfl rfl (by omega)) ?_
  refine At.p (some 19) (P_slice_arr rfl Try.underlying74 sz5 rfl rfl rfl rfl (by omega) (by omega) (by omega) (by omega)) ?_
  refine At.s (S_callV (some 20) [(1, _)] [3] (vs := [_]) rfl en41 rfl (VN (by simp) rfl (View.sub (j := k * 64) (m := 64) (by omega) rfl) V0) (by simp) (c_CloneB _ 64 _ bs _ 0 0 ((d.sector k).map u8V) (fun _ => rfl) (by simp [hlen]) (by intro u hu; obtain ⟨z, _, rfl⟩ := List.mem_map.1 hu; rfl) (by decide)) (by rintro _ _ ⟨A', b', c', g1, g2, rfl, rfl⟩; rfl) ?_)
  rintro _ _ ⟨A', b', c', g1, g2, rfl, rfl⟩
  refine At.p (some 4) (P_assign rfl rfl) ?_
  refine At.p (some 5) (P_assign rfl rfl) ?_
  refine At.nil ?_
  refine At.next ?_
  refine At.ret ?_
  refine At.give (.inl rfl) [3] (rows' := [_]) (vs := [_, _]) rfl ⟨rfl, rfl, trivial⟩ rfl (by simp) (by simp) ⟨A', b', c', g1, by omega, by rw [← hlen]; rfl, by simp [hlen]⟩
/-! a disk that power doesn't fail -/
def dH (o : Bool) (b : Nat) (bs c n : Nat) (wr : Int) : Row := rowD o b (some ⟨bs, 0, none⟩) n c false (-1) 0 wr
theorem dH_ok {n : Nat} {S : List (BitVec 8)} {wr : Int} (h1 : S.length = n * 64) (h2 : 1 ≤ n) (h3 : n ≤ 512) (h4 : 0 ≤ wr) (h5 : wr ≤ 4611686018427387904) : (DM.mk S n false (-1) 0 wr).Ok :=
 ⟨h1, by simp, by simp, by simp, h4, h5, h3, h2⟩
theorem mayE_ok {n k : Nat} (h : k < n) : mayE false n (k : Int) = 0 := by
 unfold mayE
 rw [if_neg (by simp), if_neg (by omega)]
def secs (S : List (BitVec 8)) (k : Nat) : List (BitVec 8) := (S.drop (k * 64)).take 64
theorem secs_len {S : List (BitVec 8)} {n k : Nat} (h : S.length = n * 64) (hk : k < n) : (secs S k).length = 64 := by
 simp [secs]; omega
theorem c_WriteH {n c b bs rest k : Nat} {S l : List (BitVec 8)} {wr : Int} {A : Option Addr} {nl ca bq q : Nat} (hS : S.length = n * 64) (h3 : n ≤ 512) (h4 : 0 ≤ wr) (h5 : wr ≤ 4611686018427387903) (hc : n ≤ c) (hk : k < n) (hl : l.length = nl) (h64 : nl = 64) (hA : 0 < nl → A = some ⟨bq, q, none⟩) :
  Con Try.prog 11 [ptr b 0, iV (k : Int), .slice A nl ca] [dH true b bs c n wr, rowS true bs S rest, pRow bq q l] (fun v rs => v = iV 0 ∧ rs = [dH true b bs c n (wr + 1), rowS true bs (splice S (k * 64) l) rest]) := by
 subst hl
 have h := c_Write (DM.mk S n false (-1) 0 wr) (dH_ok hS (by omega) h3 h4 (by omega)) b bs c rest hc (k : Int) A ca bq q l hA
 rw [show (DM.mk S n false (-1) 0 wr).write (k : Int) l = (DM.mk (splice S (k * 64) l) n false (-1) 0 (wr + 1), 0) by
  unfold DM.write
  dsimp only
  rw [if_neg (by rw [mayE_ok hk]; simp), if_neg (by simp [h64]), if_neg (by decide)]
  simp
  try decide] at h
 exact h
theorem c_ReadH {n c b bs rest k : Nat} {S : List (BitVec 8)} {wr : Int} (hS : S.length = n * 64) (h3 : n ≤ 512) (h4 : 0 ≤ wr) (h5 : wr ≤ 4611686018427387904) (hc : n ≤ c) (hk : k < n) :
  Con Try.prog 13 [ptr b 0, iV (k : Int)] [dH false b bs c n wr, rowS false bs S rest] (fun v rs => ∃ A' b' c', (0 < c' → A' = some ⟨b', 0, none⟩) ∧ (secs S k).length ≤ c' ∧ v = .tuple #[.slice A' (secs S k).length c', iV 0] ∧ rs = [⟨true, b', 0, 5, (secs S k).map u8V, c' - (secs S k).length⟩]) :=
 c_Read (DM.mk S n false (-1) 0 wr) (dH_ok hS (by omega) h3 h4 h5) b bs c rest hc (k : Int) 0 (secs S k) (by
  unfold DM.read
  dsimp only
  rw [if_neg (by rw [mayE_ok hk]; simp)]
  rfl)
theorem c_SizeH {n c b bs : Nat} {wr : Int} :
  Con Try.prog 18 [ptr b 0] [dH false b bs c n wr] (fun v rs => v = iV (n : Int) ∧ rs = []) :=
 c_Size (DM.mk [] n false (-1) 0 wr) b bs c


end Go.Proofs.Ytdingfinclcbgaa

