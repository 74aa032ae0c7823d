import Derived.Test.YtdingfinclcbgaaXT
import Derived.Test.YtdingfinclcbgaaSE33
import Derived.Test.YtdingfinclcbgaaSE8
import Derived.Test.YtdingfinclcbgaaSE20
import Derived.Test.YtdingfinclcbgaaSE25
import Derived.Test.YtdingfinclcbgaaSE31
import Derived.Test.YtdingfinclcbgaaSE34
import Derived.Test.YtdingfinclcbgaaSE36
namespace Go.Proofs.Ytdingfinclcbgaa
set_option maxRecDepth 20000
set_option linter.unusedVariables false
set_option linter.unusedSimpArgs false
open Go.SE Go.RowKit
structure DM where
 S : List (BitVec 8)
 n : Nat
 off : Bool
 till : Int
 torn : Nat
 wr : Int
def rowD (o : Bool) (b : Nat) (A : Option Addr) (n c : Nat) (off : Bool) (till : Int) (torn : Nat) (writes : Int) : Row := ⟨o, b, 0, 71, [.slice A n c, .bool off, iV till, iV torn, iV writes], 0⟩
def rowS (o : Bool) (b : Nat) (S : List (BitVec 8)) (rest : Nat) : Row := ⟨o, b, 0, 74, S.map u8V, rest⟩
def bytesRow (b s : Nat) (l : List (BitVec 8)) : Row := ⟨false, b, s, 0, l.map u8V, 0⟩
def DM.row (d : DM) (o : Bool) (b bs c : Nat) : Row := rowD o b (some ⟨bs, 0, none⟩) d.n c d.off d.till d.torn d.wr
def DM.rows (d : DM) (b bs c rest : Nat) : List Row := [d.row true b bs c, rowS true bs d.S rest]
def DM.Ok (d : DM) : Prop := d.S.length = d.n * 64 ∧ d.torn ≤ 64 ∧ -1 ≤ d.till ∧ d.till ≤ 9223372036854775807 ∧ 0 ≤ d.wr ∧ d.wr ≤ 4611686018427387904 ∧ d.n ≤ 512 ∧ 1 ≤ d.n
def mayE (off : Bool) (n : Nat) (i : Int) : Int := if off then 6 else if i < 0 ∨ (n : Int) ≤ i then 1 else 0
theorem mayE_no {off : Bool} {n : Nat} {i : Int} (h : (mayE off n i != 0) = false) : off = false ∧ 0 ≤ i ∧ i < n := by
 unfold mayE at h
 split at h
 · cases h
 ·
  split at h
  · cases h
  ·
   rename_i h1 h2
   exact ⟨by simpa using h1, by omega, by omega⟩
def DM.sector (d : DM) (k : Nat) : List (BitVec 8) := (d.S.drop (k * 64)).take 64
def DM.write (d : DM) (i : Int) (l : List (BitVec 8)) : DM × Int :=
 if mayE d.off d.n i ≠ 0 then (d, mayE d.off d.n i)
 else if l.length ≠ 64 then (d, 1)
 else if d.till = 0 then ({ d with S := splice d.S (i.toNat * 64) (l.take d.torn), off := true, till := -1, wr := d.wr + 1 }, 6)
 else ({ d with S := splice d.S (i.toNat * 64) l, till := max (d.till - 1) (-1), wr := d.wr + 1 }, 0)
def DM.fail (d : DM) (writes torn : Int) : DM := { d with till := max writes (-1), torn := (min (max torn 0) 64).toNat }
def DM.up (d : DM) : DM := { d with off := false, till := -1 }
def DM.new (n : Nat) : DM := ⟨List.replicate (n * 64) 0, n, false, -1, 0, 0⟩
theorem DM.new_ok {n : Nat} (h : 1 ≤ n) (h2 : n ≤ 512) : (DM.new n).Ok := by simp [DM.new, DM.Ok]; omega
theorem DM.write_ok {d : DM} (h : d.Ok) {i : Int} {l : List (BitVec 8)} (hw : d.wr < 4611686018427387904) : (d.write i l).1.Ok := by
 obtain ⟨h1, h2, h3, h4, h5, h6, h7, h8⟩ := h
 unfold DM.write
 split
 · exact ⟨h1, h2, h3, h4, h5, h6, h7, h8⟩
 ·
  rename_i hm
  obtain ⟨_, g2, g3⟩ := mayE_no (off := d.off) (n := d.n) (i := i) (by simpa using hm)
  split
  · exact ⟨h1, h2, h3, h4, h5, h6, h7, h8⟩
  ·
   rename_i hl
   split
   ·
    refine ⟨?_, h2, by dsimp only; omega, by dsimp only; omega, by dsimp only; omega, by dsimp only; omega, h7, h8⟩
    dsimp only
    rw [splice_length _ _ _ (by simp; omega), h1]
   ·
    refine ⟨?_, h2, by dsimp only; omega, by dsimp only; omega, by dsimp only; omega, by dsimp only; omega, h7, h8⟩
    dsimp only
    rw [splice_length _ _ _ (by omega), h1]
theorem DM.fail_ok {d : DM} (h : d.Ok) {a b : Int} (ha : a ≤ 9223372036854775807) : (d.fail a b).Ok := by
 obtain ⟨h1, h2, h3, h4, h5, h6, h7, h8⟩ := h
 exact ⟨h1, by simp [DM.fail]; omega, by simp [DM.fail]; omega, by simp [DM.fail]; omega, h5, h6, h7, h8⟩
theorem DM.up_ok {d : DM} (h : d.Ok) : d.up.Ok := by
 obtain ⟨h1, h2, h3, h4, h5, h6, h7, h8⟩ := h
 exact ⟨h1, h2, by simp [DM.up], by simp [DM.up], h5, h6, h7, h8⟩

theorem c_may (b : Nat) (A : Option Addr) (n c : Nat) (off : Bool) (till : Int) (torn : Nat) (writes i : Int) :
  Con Try.prog 40 [ptr b 0, iV i] [rowD false b A n c off till torn writes] (fun v rs => v = iV (mayE off n i) ∧ rs = []) := by
 refine Con.enter Try.func40 Try.ntmps40 (Nat.le_of_ble_eq_true rfl) rfl fun w => ?_
 refine At.seq ?_
 refine At.region ?_
 refine At.p (some 4) (P_assign rfl rfl) ?_
 refine At.nil ?_
 refine At.next ?_
 refine At.seq ?_
 refine At.block ?_
 refine At.seq ?_
 refine At.region ?_
 refine At.p (some 6) (P_move rfl rfl) ?_
 refine At.p (some 7) (P_eql_ptr rfl rfl rfl Try.underlying23) ?_
 refine At.p (some 5) (P_assign rfl rfl) ?_
 refine At.nil ?_
 refine At.next ?_
 refine At.cond rfl (fun h5 => by simp at h5) (fun h5 => ?_)
 refine At.seq ?_
 refine At.region ?_
 refine At.p (some 9) (P_move rfl rfl) ?_
 refine At.p (some 10) (P_nilCheck rfl rfl) ?_
 refine At.p (some 11) (P_fieldAddr0 (off := 1) rfl Try.underlying71 rfl sz4 rfl rfl) ?_
 refine At.q (some 12) (Q_loadO (k := 0) rfl rfl Try.underlying4 rfl rfl rfl) ?_
 refine At.p (some 8) (P_assign rfl rfl) ?_
 refine At.nil ?_
 refine At.next ?_
 refine At.cond rfl (fun h8 => ?_) (fun h8 => ?_)
 · -- cond 8 t
  refine At.seq ?_
  refine At.region ?_
  refine At.p (some 4) (P_assign rfl rfl) ?_
  refine At.nil ?_
  refine At.next ?_
  refine At.ret ?_
  refine At.inb_r ?_
  refine At.thn_r ?_
  refine At.give (.inl rfl) [] (rows' := []) (vs := [_]) rfl ⟨rfl, trivial⟩ rfl (by simp) (by simp) ⟨congrArg iV ?_, rfl⟩
  simp at *
  simp [mayE, *] <;> omega
 · -- cond 8 f
  refine At.seq ?_
  refine At.region ?_
  refine At.p (some 14) (P_move rfl rfl) ?_
  refine At.p (some 15) (P_cmp rfl rfl rfl rfl rfl rfl) ?_
  refine At.p (some 16) (P_move rfl rfl) ?_
  refine At.gsplit (t := 16) (want := false) rfl (fun g1 => ?_) (fun g1 => ?_)
  ·
   refine At.gy (t := 16) rfl g1 rfl rfl ?_
   refine At.p (some 17) (P_move rfl rfl) ?_
   refine At.gy (t := 16) rfl g1 rfl rfl ?_
   refine At.p (some 18) (P_move rfl rfl) ?_
   refine At.gy (t := 16) rfl g1 rfl rfl ?_
   refine At.p (some 19) (P_nilCheck rfl rfl) ?_
   refine At.gy (t := 16) rfl g1 rfl rfl ?_
   refine At.p (some 20) (P_fieldAddr0 (off := 0) rfl Try.underlying71 rfl sz69 rfl rfl) ?_
   refine At.gy (t := 16) rfl g1 rfl rfl ?_
   refine At.q (some 21) (Q_loadO (k := 0) rfl rfl Try.underlying69 rfl rfl rfl) ?_
   refine At.gy (t := 16) rfl g1 rfl rfl ?_
   refine At.p (some 22) (P_len_sl rfl rfl ⟨_, Try.underlying69⟩ rfl) ?_
   refine At.gy (t := 16) rfl g1 rfl rfl ?_
   refine At.p (some 23) (P_cmp rfl rfl rfl rfl rfl rfl) ?_
   refine At.p (some 24) (P_pick_f rfl rfl g1 rfl) ?_
   refine At.p (some 13) (P_assign rfl rfl) ?_
   refine At.nil ?_
   refine At.next ?_
   refine At.cond rfl (fun h13 => ?_) (fun h13 => ?_)
   · -- cond 13 t
    refine At.seq ?_
    refine At.region ?_
    refine At.p (some 4) (P_assign rfl rfl) ?_
    refine At.nil ?_
    refine At.next ?_
    refine At.ret ?_
    refine At.inb_r ?_
    refine At.thn_r ?_
    refine At.give (.inl rfl) [] (rows' := []) (vs := [_]) rfl ⟨rfl, trivial⟩ rfl (by simp) (by simp) ⟨congrArg iV ?_, rfl⟩
    simp at *
    simp [mayE, *] <;> omega
   · -- cond 13 f
    refine At.skip ?_
    refine At.inb_n ?_
    refine At.next ?_
    refine At.seq ?_
    refine At.region ?_
    refine At.p (some 4) (P_assign rfl rfl) ?_
    refine At.nil ?_
    refine At.next ?_
    refine At.ret ?_
    refine At.give (.inl rfl) [] (rows' := []) (vs := [_]) rfl ⟨rfl, trivial⟩ rfl (by simp) (by simp) ⟨congrArg iV ?_, rfl⟩
    simp at *
    simp [mayE, *] <;> omega
  ·
   refine At.gn (some 17) (t := 16) rfl g1 rfl rfl ?_
   refine At.gn (some 18) (t := 16) rfl g1 rfl rfl ?_
   refine At.gn (some 19) (t := 16) rfl g1 rfl rfl ?_
   refine At.gn (some 20) (t := 16) rfl g1 rfl rfl ?_
   refine At.gn (some 21) (t := 16) rfl g1 rfl rfl ?_
   refine At.gn (some 22) (t := 16) rfl g1 rfl rfl ?_
   refine At.gn (some 23) (t := 16) rfl g1 rfl rfl ?_
   refine At.p (some 24) (P_pick_t rfl rfl g1 rfl) ?_
   refine At.p (some 13) (P_assign rfl rfl) ?_
   refine At.nil ?_
   refine At.next ?_
   refine At.cond rfl (fun _ => ?_) (fun h => absurd (h.symm.trans rfl) (by decide))
   refine At.seq ?_
   refine At.region ?_
   refine At.p (some 4) (P_assign rfl rfl) ?_
   refine At.nil ?_
   refine At.next ?_
   refine At.ret ?_
   refine At.inb_r ?_
   refine At.thn_r ?_
   refine At.give (.inl rfl) [] (rows' := []) (vs := [_]) rfl ⟨rfl, trivial⟩ rfl (by simp) (by simp) ⟨congrArg iV ?_, rfl⟩
   simp at *
   simp [mayE, *] <;> omega

theorem c_New (n : Nat) (h1 : 1 ≤ n) (h2 : n ≤ 512) :
  Con Try.prog 9 [iV n] [] (fun v rs => ∃ b bs, v = .tuple #[ptr b 0, iV 0] ∧ rs = (DM.new n).rows b bs n 0) := by
 refine Con.enter Try.func9 Try.ntmps9 (Nat.le_of_ble_eq_true rfl) rfl fun w => ?_
 refine At.seq ?_
 refine At.region ?_
 refine At.p (some 2) (P_assign rfl rfl) ?_
 refine At.p (some 3) (P_assign rfl rfl) ?_
 refine At.nil ?_
 refine At.next ?_
 refine At.seq ?_
 refine At.seq ?_
 refine At.region ?_
 refine At.p (some 4) (P_move rfl rfl) ?_
 refine At.p (some 5) (P_cmp rfl rfl rfl rfl rfl rfl) ?_
 refine At.p (some 6) (P_move rfl rfl) ?_
 refine At.gy (t := 6) rfl (by simp; omega) rfl rfl ?_
 refine At.p (some 7) (P_move rfl rfl) ?_
 refine At.gy (t := 6) rfl (by simp; omega) rfl rfl ?_
 refine At.p (some 8) (P_cmp rfl rfl rfl rfl rfl rfl) ?_
 refine At.p (some 9) (P_pick_f rfl rfl (by simp; omega) rfl) ?_
 refine At.nil ?_
 refine At.next ?_
 refine At.cond rfl (fun h9 => by simp at *; omega) (fun h9 => ?_)
 refine At.skip ?_
 refine At.next ?_
 refine At.seq ?_
 refine At.region ?_
 refine At.p (some 10) (P_move rfl rfl) ?_
 refine At.s (S_makeN (some 11) 0 (n := n) (cs := (List.replicate (n * 64) 0#8).map u8V) rfl Try.underlying69 sz74 by74 ze74 rfl rfl (by omega) (by omega) (by omega) (by omega) ((made_repl 63 _).trans (by rw [List.map_replicate]; rfl)) (fun b0 => ?_))
 refine At.p (some 12) (P_build_struct (parts := _) (vs := [(0, _), (2, _)]) rfl Try.underlying71 ze71 pl71 rfl rfl) ?_
 refine At.s (S_box (some 13) 1 rfl rfl rfl (fun b1 => ?_))
 refine At.p (some 2) (P_assign rfl rfl) ?_
 refine At.p (some 3) (P_assign rfl rfl) ?_
 refine At.nil ?_
 refine At.next ?_
 refine At.ret ?_
 refine At.give (.inl rfl) [1, 0] (rows' := [_, _]) (vs := [_, _]) rfl ⟨rfl, rfl, trivial⟩ rfl (by simp) (by simp [DM.rows, DM.row, rowD, rowS, DM.new]) ⟨b1, b0, rfl, rfl⟩

theorem c_Up (d : DM) (b bs c rest : Nat) :
  Con Try.prog 12 [ptr b 0] (d.rows b bs c rest) (fun v rs => v = .tuple #[] ∧ rs = d.up.rows b bs c rest) := by
 refine Con.enter Try.func12 Try.ntmps12 (Nat.le_of_ble_eq_true rfl) rfl fun w => ?_
 refine At.seq ?_
 refine At.region ?_
 refine At.p (some 2) (P_move rfl rfl) ?_
 refine At.p (some 3) (P_neq_ptr rfl rfl rfl Try.underlying23) ?_
 refine At.nil ?_
 refine At.next ?_
 refine At.cond rfl (fun h3 => ?_) (fun h3 => by simp at h3)
 refine At.region ?_
 refine At.p (some 4) (P_move rfl rfl) ?_
 refine At.p (some 5) (P_move rfl rfl) ?_
 refine At.p (some 6) (P_nilCheck rfl rfl) ?_
 refine At.p (some 7) (P_fieldAddr0 (off := 1) rfl Try.underlying71 rfl sz4 rfl rfl) ?_
 refine At.s (S_store none (k := 0) rfl rfl rfl sz4 rfl rfl rfl WD ?_)
 refine At.p (some 8) (P_nilCheck rfl rfl) ?_
 refine At.p (some 9) (P_fieldAddr0 (off := 2) rfl Try.underlying71 rfl sz3 rfl rfl) ?_
 refine At.s (S_store none (k := 0) rfl rfl rfl sz3 rfl rfl rfl WD ?_)
 refine At.nil ?_
 refine At.give (.inr rfl) [0, 1] (rows' := [_, _]) (vs := []) rfl trivial rfl (by simp) (by simp [DM.rows, DM.row, rowD, rowS]) ⟨rfl, rfl⟩

theorem c_Fail (d : DM) (b bs c rest : Nat) (i j : Int) :
  Con Try.prog 10 [ptr b 0, iV i, iV j] (d.rows b bs c rest) (fun v rs => v = .tuple #[] ∧ rs = (d.fail i j).rows b bs c rest) := by
 obtain ⟨S, n, off, till, torn, wr⟩ := d
 refine Con.enter Try.func10 Try.ntmps10 (Nat.le_of_ble_eq_true rfl) rfl fun w => ?_
 refine At.seq ?_
 refine At.region ?_
 refine At.p (some 6) (P_move rfl rfl) ?_
 refine At.p (some 7) (P_neq_ptr rfl rfl rfl Try.underlying23) ?_
 refine At.nil ?_
 refine At.next ?_
 refine At.cond rfl (fun h7 => ?_) (fun h7 => by simp at h7)
 refine At.region ?_
 refine At.p (some 8) (P_move rfl rfl) ?_
 refine At.p (some 9) (P_move rfl rfl) ?_
 refine At.p (some 10) (P_move rfl rfl) ?_
 refine At.p (some 11) (P_max2 rfl rfl rfl rfl) ?_
 refine At.p (some 12) (P_move rfl rfl) ?_
 refine At.p (some 13) (P_max2 rfl rfl rfl rfl) ?_
 refine At.p (some 14) (P_min2 rfl rfl rfl rfl) ?_
 refine At.p (some 15) (P_nilCheck rfl rfl) ?_
 refine At.p (some 16) (P_fieldAddr0 (off := 2) rfl Try.underlying71 rfl sz3 rfl rfl) ?_
 refine At.s (S_store none (k := 0) rfl rfl rfl sz3 rfl rfl rfl WD ?_)
 refine At.p (some 17) (P_nilCheck rfl rfl) ?_
 refine At.p (some 18) (P_fieldAddr0 (off := 3) rfl Try.underlying71 rfl sz3 rfl rfl) ?_
 refine At.s (S_store none (k := 0) rfl rfl rfl sz3 rfl rfl rfl WD ?_)
 refine At.nil ?_
 refine At.give (.inr rfl) [0, 1] (vs := []) (rows' := (DM.fail ⟨S, n, off, till, torn, wr⟩ i j).rows b bs c rest) rfl trivial ?_ (by simp) (by simp [DM.rows, DM.row, rowD, rowS]) ⟨rfl, rfl⟩
 simp only [DM.fail, DM.rows, DM.row, List.map_cons, List.map_nil, List.cons.injEq, and_true]
 refine ⟨congrArg some ?_, rfl⟩
 show Row.mk _ _ _ _ _ _ = Row.mk _ _ _ _ _ _
 rw [Int.toNat_of_nonneg (by omega)]
 rfl

theorem c_Writes (d : DM) (b bs c : Nat) :
  Con Try.prog 15 [ptr b 0] [d.row false b bs c] (fun v rs => v = iV d.wr ∧ rs = []) := by
 refine Con.enter Try.func15 Try.ntmps15 (Nat.le_of_ble_eq_true rfl) rfl fun w => ?_
 refine At.seq ?_
 refine At.region ?_
 refine At.p (some 2) (P_assign rfl rfl) ?_
 refine At.nil ?_
 refine At.next ?_
 refine At.seq ?_
 refine At.seq ?_
 refine At.region ?_
 refine At.p (some 3) (P_move rfl rfl) ?_
 refine At.p (some 4) (P_eql_ptr rfl rfl rfl Try.underlying23) ?_
 refine At.nil ?_
 refine At.next ?_
 refine At.cond rfl (fun h4 => by simp at h4) (fun h4 => ?_)
 refine At.skip ?_
 refine At.next ?_
 refine At.seq ?_
 refine At.region ?_
 refine At.p (some 5) (P_move rfl rfl) ?_
 refine At.p (some 6) (P_nilCheck rfl rfl) ?_
 refine At.p (some 7) (P_fieldAddr0 (off := 4) rfl Try.underlying71 rfl sz3 rfl rfl) ?_
 refine At.q (some 8) (Q_loadO (k := 0) rfl rfl Try.underlying3 rfl rfl rfl) ?_
 refine At.p (some 2) (P_assign rfl rfl) ?_
 refine At.nil ?_
 refine At.next ?_
 refine At.ret ?_
 refine At.give (.inl rfl) [] (rows' := []) (vs := [_]) rfl ⟨rfl, trivial⟩ rfl (by simp) (by simp) ⟨rfl, rfl⟩

theorem c_Size (d : DM) (b bs c : Nat) :
  Con Try.prog 18 [ptr b 0] [d.row false b bs c] (fun v rs => v = iV d.n ∧ rs = []) := by
 refine Con.enter Try.func18 Try.ntmps18 (Nat.le_of_ble_eq_true rfl) rfl fun w => ?_
 refine At.seq ?_
 refine At.region ?_
 refine At.p (some 2) (P_assign rfl rfl) ?_
 refine At.nil ?_
 refine At.next ?_
 refine At.seq ?_
 refine At.seq ?_
 refine At.region ?_
 refine At.p (some 3) (P_move rfl rfl) ?_
 refine At.p (some 4) (P_eql_ptr rfl rfl rfl Try.underlying23) ?_
 refine At.nil ?_
 refine At.next ?_
 refine At.cond rfl (fun h4 => by simp at h4) (fun h4 => ?_)
 refine At.skip ?_
 refine At.next ?_
 refine At.seq ?_
 refine At.region ?_
 refine At.p (some 5) (P_move rfl rfl) ?_
 refine At.p (some 6) (P_nilCheck rfl rfl) ?_
 refine At.p (some 7) (P_fieldAddr0 (off := 0) rfl Try.underlying71 rfl sz69 rfl rfl) ?_
 refine At.q (some 8) (Q_loadO (k := 0) rfl rfl Try.underlying69 rfl rfl rfl) ?_
 refine At.p (some 9) (P_len_sl rfl rfl ⟨_, Try.underlying69⟩ rfl) ?_
 refine At.p (some 2) (P_assign rfl rfl) ?_
 refine At.nil ?_
 refine At.next ?_
 refine At.ret ?_
 refine At.give (.inl rfl) [] (rows' := []) (vs := [_]) rfl ⟨rfl, trivial⟩ rfl (by simp) (by simp) ⟨rfl, rfl⟩

theorem c_On (d : DM) (b bs c : Nat) :
  Con Try.prog 17 [ptr b 0] [d.row false b bs c] (fun v rs => v = .bool (!d.off) ∧ rs = []) := by
 refine Con.enter Try.func17 Try.ntmps17 (Nat.le_of_ble_eq_true rfl) rfl fun w => ?_
 refine At.seq ?_
 refine At.region ?_
 refine At.p (some 2) (P_assign rfl rfl) ?_
 refine At.nil ?_
 refine At.next ?_
 refine At.seq ?_
 refine At.region ?_
 refine At.p (some 3) (P_move rfl rfl) ?_
 refine At.p (some 4) (P_neq_ptr rfl rfl rfl Try.underlying23) ?_
 refine At.p (some 5) (P_move rfl rfl) ?_
 refine At.gy (t := 5) rfl rfl rfl rfl ?_
 refine At.p (some 6) (P_move rfl rfl) ?_
 refine At.gy (t := 5) rfl rfl rfl rfl ?_
 refine At.p (some 7) (P_nilCheck rfl rfl) ?_
 refine At.gy (t := 5) rfl rfl rfl rfl ?_
 refine At.p (some 8) (P_fieldAddr0 (off := 1) rfl Try.underlying71 rfl sz4 rfl rfl) ?_
 refine At.gy (t := 5) rfl rfl rfl rfl ?_
 refine At.q (some 9) (Q_loadO (k := 0) rfl rfl Try.underlying4 rfl rfl rfl) ?_
 refine At.gy (t := 5) rfl rfl rfl rfl ?_
 refine At.p (some 10) (P_not rfl rfl) ?_
 refine At.p (some 11) (P_pick_t rfl rfl rfl rfl) ?_
 refine At.p (some 2) (P_assign rfl rfl) ?_
 refine At.nil ?_
 refine At.next ?_
 refine At.ret ?_
 refine At.give (.inl rfl) [] (rows' := []) (vs := [_]) rfl ⟨rfl, trivial⟩ rfl (by simp) (by simp) ⟨rfl, rfl⟩

theorem c_CloneB (A : Option Addr) (n c bq q s0 s1 : Nat) (cs : List Value) (hA : 0 < n → A = some ⟨bq, q, none⟩) (hl : cs.length = n * 1) (h1 : ∀ u ∈ cs, u.oneCell' = true) (hn : n ≤ 1000000) :
  Con Try.prog 41 [.slice A n c] [⟨false, bq, q, s0, cs, s1⟩] (fun v rs => ∃ A' b' c', (0 < c' → A' = some ⟨b', 0, none⟩) ∧ n ≤ c' ∧ v = .slice A' n c' ∧ rs = [⟨true, b', 0, 5, cs, (c' - n) * 1⟩]) := by
 refine Con.enter Try.func41 Try.ntmps41 (Nat.le_of_ble_eq_true rfl) rfl fun w => ?_
 refine At.seq ?_
 refine At.region ?_
 refine At.p (some 2) (P_assign rfl rfl) ?_
 refine At.nil ?_
 refine At.next ?_
 refine At.seq ?_
 refine At.seq ?_
 refine At.region ?_
 refine At.p (some 3) (P_move rfl rfl) ?_
 refine At.p (some 4) (P_eql_slnil rfl Try.underlying27 rfl rfl) ?_
 refine At.nil ?_
 refine At.next ?_
 refine At.cond rfl (fun h4 => ?_) (fun h4 => ?_)
 · -- cond 4 t
  refine At.seq ?_
  refine At.region ?_
  refine At.p (some 2) (P_assign rfl rfl) ?_
  refine At.nil ?_
  refine At.next ?_
  refine At.ret ?_
  refine At.thn_r ?_
  have hn : n = 0 := Nat.eq_zero_of_not_pos (fun h => by have h2 := hA h; subst h2; cases h4)
  have hc : cs = [] := List.eq_nil_of_length_eq_zero (by simp [hl, hn])
  subst hn hc
  refine At.empty 1 0 5 ?_
  refine At.give (.inl rfl) [1] (rows' := [_]) (vs := [_]) rfl ⟨rfl, trivial⟩ rfl (by simp) (by simp) ⟨none, 0, 0, by simp, by simp, rfl, rfl⟩
 · -- cond 4 f
  refine At.skip ?_
  refine At.next ?_
  refine At.seq ?_
  refine At.region ?_
  refine At.s (S_buildSlice0 (some 5) 1 rfl Try.underlying27 sz5 (fun b1 => ?_))
  refine At.p (some 6) (P_move rfl rfl) ?_
  refine At.s (S_appendN (some 7) 1 n cs (cells := []) (rest := 0) (b := b1) rfl Try.underlying27 Try.underlying27 (.inr ⟨_, rfl⟩) sz5 by5 ze5 rfl rfl (fun h => absurd h (by omega)) rfl rfl (by omega) (Src.row (k := 0)  (b := bq) (q := q) rfl hA (fun _ => ⟨rfl, rfl, rfl⟩) (by rw [List.drop_zero, ← hl, List.take_length]) hl) h1 (by decide) (by omega) (by omega) (by omega) rfl ?_)
  intro A1 b1 c1 g1 g2
  refine At.p (some 2) (P_assign rfl rfl) ?_
  refine At.nil ?_
  refine At.next ?_
  refine At.ret ?_
  refine At.give (.inl rfl) [1] (rows' := [_]) (vs := [_]) rfl ⟨rfl, trivial⟩ rfl (by simp) (by simp) ⟨A1, b1, c1, g1, g2, rfl, rfl⟩

theorem c_CloneS (A : Option Addr) (n c bq q s0 s1 : Nat) (cs : List Value) (hA : 0 < n → A = some ⟨bq, q, none⟩) (hl : cs.length = n * 64) (h1 : ∀ u ∈ cs, u.oneCell' = true) (hn : n ≤ 1000000) :
  Con Try.prog 42 [.slice A n c] [⟨false, bq, q, s0, cs, s1⟩] (fun v rs => ∃ A' b' c', (0 < c' → A' = some ⟨b', 0, none⟩) ∧ n ≤ c' ∧ v = .slice A' n c' ∧ rs = [⟨true, b', 0, 74, cs, (c' - n) * 64⟩]) := by
 refine Con.enter Try.func42 Try.ntmps42 (Nat.le_of_ble_eq_true rfl) rfl fun w => ?_
 refine At.seq ?_
 refine At.region ?_
 refine At.p (some 2) (P_assign rfl rfl) ?_
 refine At.nil ?_
 refine At.next ?_
 refine At.seq ?_
 refine At.seq ?_
 refine At.region ?_
 refine At.p (some 3) (P_move rfl rfl) ?_
 refine At.p (some 4) (P_eql_slnil rfl Try.underlying69 rfl rfl) ?_
 refine At.nil ?_
 refine At.next ?_
 refine At.cond rfl (fun h4 => ?_) (fun h4 => ?_)
 · -- cond 4 t
  refine At.seq ?_
  refine At.region ?_
  refine At.p (some 2) (P_assign rfl rfl) ?_
  refine At.nil ?_
  refine At.next ?_
  refine At.ret ?_
  refine At.thn_r ?_
  have hn : n = 0 := Nat.eq_zero_of_not_pos (fun h => by have h2 := hA h; subst h2; cases h4)
  have hc : cs = [] := List.eq_nil_of_length_eq_zero (by simp [hl, hn])
  subst hn hc
  refine At.empty 1 0 74 ?_
  refine At.give (.inl rfl) [1] (rows' := [_]) (vs := [_]) rfl ⟨rfl, trivial⟩ rfl (by simp) (by simp) ⟨none, 0, 0, by simp, by simp, rfl, rfl⟩
 · -- cond 4 f
  refine At.skip ?_
  refine At.next ?_
  refine At.seq ?_
  refine At.region ?_
  refine At.s (S_buildSlice0 (some 5) 1 rfl Try.underlying69 sz74 (fun b1 => ?_))
  refine At.p (some 6) (P_move rfl rfl) ?_
  refine At.s (S_appendN (some 7) 1 n cs (cells := []) (rest := 0) (b := b1) rfl Try.underlying69 Try.underlying69 (.inr ⟨_, rfl⟩) sz74 by74 ze74 rfl rfl (fun h => absurd h (by omega)) rfl rfl (by omega) (Src.row (k := 0)  (b := bq) (q := q) rfl hA (fun _ => ⟨rfl, rfl, rfl⟩) (by rw [List.drop_zero, ← hl, List.take_length]) hl) h1 (by decide) (by omega) (by omega) (by omega) rfl ?_)
  intro A1 b1 c1 g1 g2
  refine At.p (some 2) (P_assign rfl rfl) ?_
  refine At.nil ?_
  refine At.next ?_
  refine At.ret ?_
  refine At.give (.inl rfl) [1] (rows' := [_]) (vs := [_]) rfl ⟨rfl, trivial⟩ rfl (by simp) (by simp) ⟨A1, b1, c1, g1, g2, rfl, rfl⟩

theorem c_Write0 (S : List (BitVec 8)) (n0 : Nat) (off : Bool) (till : Int) (torn : Nat) (wr : Int) (hok : (DM.mk S n0 off till torn wr).Ok) (b bs c rest : Nat) (hc : n0 ≤ c) (i : Int) (A : Option Addr) (ca bq q : Nat) (l : List (BitVec 8)) (hA : 0 < l.length → A = some ⟨bq, q, none⟩) :
  Con Try.prog 11 [ptr b 0, iV i, .slice A l.length ca] [rowD true b (some ⟨bs, 0, none⟩) n0 c off till torn wr, rowS true bs S rest, bytesRow bq q l] (fun v rs => v = iV ((DM.mk S n0 off till torn wr).write i l).2 ∧ rs = ((DM.mk S n0 off till torn wr).write i l).1.rows b bs c rest) := by
 obtain ⟨hS, ht, ht1, ht2, hw1, hw2, hn1, hn2⟩ := hok
 dsimp only at hS ht ht1 ht2 hw1 hw2 hn1 hn2
 refine Con.enter Try.func11 Try.ntmps11 (Nat.le_of_ble_eq_true rfl) rfl fun w => ?_
 refine At.seq ?_
 refine At.region ?_
 refine At.p (some 6) (P_assign rfl rfl) ?_
 refine At.nil ?_
 refine At.next ?_
 refine At.seq ?_
 refine At.seq ?_
 refine At.region ?_
 refine At.p (some 8) (P_move rfl rfl) ?_
 refine At.p (some 9) (P_move rfl rfl) ?_
 refine At.s (S_callV (some 10) [(0, _)] [] (vs := [_, _]) rfl en40 rfl (VN (by simp) rfl View.all V0) (by simp) (c_may _ _ _ _ _ _ _ _ _) (by rintro _ _ ⟨rfl, rfl⟩; rfl) ?_)
 rintro _ _ ⟨rfl, rfl⟩
 refine At.p (some 7) (P_assign rfl rfl) ?_
 refine At.nil ?_
 refine At.next ?_
 refine At.seq ?_
 refine At.region ?_
 refine At.p (some 11) (P_move rfl rfl) ?_
 refine At.p (some 12) (P_cmp rfl rfl rfl rfl rfl rfl) ?_
 refine At.nil ?_
 refine At.next ?_
 refine At.cond rfl (fun h12 => ?_) (fun h12 => ?_)
 · -- cond 12 t
  refine At.seq ?_
  refine At.region ?_
  refine At.p (some 13) (P_move rfl rfl) ?_
  refine At.p (some 6) (P_assign rfl rfl) ?_
  refine At.nil ?_
  refine At.next ?_
  refine At.ret ?_
  refine At.thn_r ?_
  refine At.give (.inl rfl) [0, 1] (vs := [_]) rfl ⟨rfl, trivial⟩ (rows' := DM.rows ⟨S, n0, off, till, torn, wr⟩ b bs c rest) rfl (by simp) (by simp [DM.rows, DM.row, rowD, rowS]) ⟨?_, ?_⟩
  ·
   have : mayE off n0 i ≠ 0 := by simpa using h12
   simp [DM.write, this, retV]
  ·
   have : mayE off n0 i ≠ 0 := by simpa using h12
   simp [DM.write, this]
 · -- cond 12 f
  obtain ⟨rfl, hi0, hin⟩ := mayE_no h12
  obtain ⟨k, rfl⟩ := Int.eq_ofNat_of_zero_le hi0
  have hk : k < n0 := by omega
  have hm0 : mayE false n0 (k : Int) = 0 := by simpa using h12
  refine At.skip ?_
  refine At.next ?_
  refine At.seq ?_
  refine At.seq ?_
  refine At.region ?_
  refine At.p (some 14) (P_move rfl rfl) ?_
  refine At.p (some 15) (P_len_sl rfl rfl ⟨_, Try.underlying27⟩ rfl) ?_
  refine At.p (some 16) (P_cmp rfl rfl rfl rfl rfl rfl) ?_
  refine At.nil ?_
  refine At.next ?_
  refine At.cond rfl (fun h16 => ?_) (fun h16 => ?_)
  · -- cond 16 t
   have hl0 : l.length ≠ 64 := by simp at h16; omega
   refine At.seq ?_
   refine At.region ?_
   refine At.p (some 6) (P_assign rfl rfl) ?_
   refine At.nil ?_
   refine At.next ?_
   refine At.ret ?_
   refine At.thn_r ?_
   refine At.give (.inl rfl) [0, 1] (vs := [_]) rfl ⟨rfl, trivial⟩ (rows' := DM.rows ⟨S, n0, false, till, torn, wr⟩ b bs c rest) rfl (by simp) (by simp [DM.rows, DM.row, rowD, rowS]) ⟨?_, ?_⟩
   · simp [DM.write, hm0, hl0, retV]
   · simp [DM.write, hm0, hl0]
  · -- cond 16 f
   have hl : l.length = 64 := by simp at h16; omega
   refine At.skip ?_
   refine At.next ?_
   refine At.seq ?_
   refine At.region ?_
   refine At.p (some 17) (P_move rfl rfl) ?_
   refine At.p (some 18) (P_nilCheck rfl rfl) ?_
   refine At.p (some 19) (P_fieldAddr0 (off := 4) rfl Try.underlying71 rfl sz3 rfl rfl) ?_
   refine At.q (some 20) (Q_loadO (k := 0) rfl rfl Try.underlying3 rfl rfl rfl) ?_
   refine At.p (some 21) (P_add_i rfl rfl rfl (by omega)) ?_
   refine At.p (some 22) (P_nilCheck rfl rfl) ?_
   refine At.p (some 23) (P_fieldAddr0 (off := 4) rfl Try.underlying71 rfl sz3 rfl rfl) ?_
   refine At.s (S_store none (k := 0) rfl rfl rfl sz3 rfl rfl rfl WD ?_)
   refine At.nil ?_
   refine At.next ?_
   refine At.seq ?_
   refine At.seq ?_
   refine At.region ?_
   refine At.p (some 24) (P_move rfl rfl) ?_
   refine At.p (some 25) (P_nilCheck rfl rfl) ?_
   refine At.p (some 26) (P_fieldAddr0 (off := 2) rfl Try.underlying71 rfl sz3 rfl rfl) ?_
   refine At.q (some 27) (Q_loadO (k := 0) rfl rfl Try.underlying3 rfl rfl rfl) ?_
   refine At.p (some 28) (P_cmp rfl rfl rfl rfl rfl rfl) ?_
   refine At.nil ?_
   refine At.next ?_
   refine At.cond rfl (fun h28 => ?_) (fun h28 => ?_)
   · -- cond 28 t
    have h2t : till = 0 := by simpa using h28
    refine At.seq ?_
    refine At.region ?_
    refine At.p (some 29) (P_move rfl rfl) ?_
    refine At.p (some 30) (P_move rfl rfl) ?_
    refine At.p (some 31) (P_nilCheck rfl rfl) ?_
    refine At.p (some 32) (P_fieldAddr0 (off := 1) rfl Try.underlying71 rfl sz4 rfl rfl) ?_
    refine At.s (S_store none (k := 0) rfl rfl rfl sz4 rfl rfl rfl WD ?_)
    refine At.p (some 33) (P_nilCheck rfl rfl) ?_
    refine At.p (some 34) (P_fieldAddr0 (off := 2) rfl Try.underlying71 rfl sz3 rfl rfl) ?_
    refine At.s (S_store none (k := 0) rfl rfl rfl sz3 rfl rfl rfl WD ?_)
    refine At.nil ?_
    refine At.next ?_
    refine At.seq ?_
    refine At.draws 12 [] [.q false [0, 1, 2, 3, 4, 5, 6, 7, 8, 9, 10, 11]] (by kernel_rfl) (by kernel_rfl) ?_
    refine At.wp (some 35) (P_move rfl rfl) ?_
    refine At.wp (some 36) (P_nilCheck rfl rfl) ?_
    refine At.wp (some 37) (P_fieldAddr0 (off := 0) rfl Try.underlying71 rfl sz69 rfl rfl) ?_
    refine At.wq (some 38) (Q_loadO (k := 0) rfl rfl Try.underlying69 rfl rfl rfl) ?_
    refine At.wp (some 39) (P_move rfl rfl) ?_
    refine At.wp (some 40) (P_indexAddr_sl rfl Try.underlying69 sz74 rfl rfl rfl rfl (by omega)) ?_
    refine At.wp (some 41) (P_move rfl rfl) ?_
    refine At.wp (some 42) (P_nilCheck rfl rfl) ?_
    refine At.wp (some 43) (P_fieldAddr0 (off := 3) rfl Try.underlying71 rfl sz3 rfl rfl) ?_
    refine At.wq (some 44) (Q_loadO (k := 0) rfl rfl Try.underlying3 rfl rfl rfl) ?_
    refine At.wp (some 45) (P_slice_arr (h := torn) rfl Try.underlying74 sz5 rfl rfl ⟨_, _, rfl, by omega⟩ rfl (by omega) (by omega) (by omega) (by omega)) ?_
    refine At.wp (some 46) (P_move rfl rfl) ?_
    refine At.wqn ?_
    refine At.wt rfl ?_
    refine At.s (S_copyM (some 47) 1 2 (j := 0) (n := torn) (L := l.take torn) (p := 0 + k * 64 + 0 * 1) (m := l.length) rfl Try.underlying27 sz5 rfl (fun _ => rfl) rfl rfl (fun h => hA (by omega)) (fun h => ⟨rfl, rfl, rfl⟩) (by simp [bytesRow, List.map_take]) (by omega) (by simp; omega) (fun _ => rfl) (by omega) ?_)
    refine At.nil ?_
    refine At.next ?_
    refine At.seq ?_
    refine At.region ?_
    refine At.p (some 6) (P_assign rfl rfl) ?_
    refine At.nil ?_
    refine At.next ?_
    refine At.ret ?_
    refine At.thn_r ?_
    refine At.give (.inl rfl) [0, 1] (vs := [_]) rfl ⟨rfl, trivial⟩ (rows' := DM.rows ⟨splice S (k * 64) (l.take torn), n0, true, -1, torn, wr + 1⟩ b bs c rest) (by simp only [DM.rows, DM.row, rowD, rowS, Nat.zero_add, Nat.zero_mul, Nat.add_zero]; rfl) (by simp) (by simp [DM.rows, DM.row, rowD, rowS]) ⟨?_, ?_⟩
    · simp [DM.write, hm0, hl, h2t, retV]
    · simp [DM.write, hm0, hl, h2t]
   · -- cond 28 f
    have h2t : ¬ till = 0 := by simpa using h28
    refine At.skip ?_
    refine At.next ?_
    refine At.seq ?_
    refine At.region ?_
    refine At.p (some 48) (P_move rfl rfl) ?_
    refine At.p (some 49) (P_move rfl rfl) ?_
    refine At.p (some 50) (P_nilCheck rfl rfl) ?_
    refine At.p (some 51) (P_fieldAddr0 (off := 2) rfl Try.underlying71 rfl sz3 rfl rfl) ?_
    refine At.q (some 52) (Q_loadO (k := 0) rfl rfl Try.underlying3 rfl rfl rfl) ?_
    refine At.p (some 53) (P_sub_i rfl rfl rfl (by omega)) ?_
    refine At.p (some 54) (P_max2 rfl rfl rfl rfl) ?_
    refine At.p (some 55) (P_nilCheck rfl rfl) ?_
    refine At.p (some 56) (P_fieldAddr0 (off := 2) rfl Try.underlying71 rfl sz3 rfl rfl) ?_
    refine At.s (S_store none (k := 0) rfl rfl rfl sz3 rfl rfl rfl WD ?_)
    refine At.nil ?_
    refine At.next ?_
    refine At.seq ?_
    refine At.region ?_
    refine At.p (some 57) (P_move rfl rfl) ?_
    refine At.p (some 58) (P_nilCheck rfl rfl) ?_
    refine At.p (some 59) (P_fieldAddr0 (off := 0) rfl Try.underlying71 rfl sz69 rfl rfl) ?_
    refine At.q (some 60) (Q_loadO (k := 0) rfl rfl Try.underlying69 rfl rfl rfl) ?_
    refine At.p (some 61) (P_move rfl rfl) ?_
    refine At.p (some 62) (P_indexAddr_sl rfl Try.underlying69 sz74 rfl rfl rfl rfl (by omega)) ?_
    refine At.p (some 63) (P_slice_arr rfl Try.underlying74 sz5 rfl rfl rfl rfl (by omega) (by omega) (by omega) (by omega)) ?_
    refine At.p (some 64) (P_move rfl rfl) ?_
    refine At.s (S_copyM (some 65) 1 2 (j := 0) (n := 64) (L := l) (p := 0 + k * 64 + 0 * 1) (m := l.length) rfl Try.underlying27 sz5 rfl (fun _ => rfl) rfl rfl (fun h => hA (by omega)) (fun h => ⟨rfl, rfl, rfl⟩) (by rw [← hl]; simp [bytesRow, List.take_of_length_le]) (by omega) (by omega) (fun _ => rfl) (by omega) ?_)
    refine At.nil ?_
    refine At.next ?_
    refine At.seq ?_
    refine At.region ?_
    refine At.p (some 6) (P_assign rfl rfl) ?_
    refine At.nil ?_
    refine At.next ?_
    refine At.ret ?_
    refine At.give (.inl rfl) [0, 1] (vs := [_]) rfl ⟨rfl, trivial⟩ (rows' := DM.rows ⟨splice S (k * 64) l, n0, false, max (till - 1) (-1), torn, wr + 1⟩ b bs c rest) (by simp only [DM.rows, DM.row, rowD, rowS, Nat.zero_add, Nat.zero_mul, Nat.add_zero]; rfl) (by simp) (by simp [DM.rows, DM.row, rowD, rowS]) ⟨?_, ?_⟩
    · simp [DM.write, hm0, hl, h2t, retV]
    · simp [DM.write, hm0, hl, h2t]

theorem c_Write (d : DM) (hok : d.Ok) (b bs c rest : Nat) (hc : d.n ≤ c) (i : Int) (A : Option Addr) (ca bq q : Nat) (l : List (BitVec 8)) (hA : 0 < l.length → A = some ⟨bq, q, none⟩) :
  Con Try.prog 11 [ptr b 0, iV i, .slice A l.length ca] (d.rows b bs c rest ++ [bytesRow bq q l]) (fun v rs => v = iV (d.write i l).2 ∧ rs = (d.write i l).1.rows b bs c rest) :=
 c_Write0 d.S d.n d.off d.till d.torn d.wr hok b bs c rest hc i A ca bq q l hA

def DM.read (d : DM) (i : Int) : List (BitVec 8) × Int := if mayE d.off d.n i ≠ 0 then ([], mayE d.off d.n i) else (d.sector i.toNat, 0)

theorem c_Read (d : DM) (hok : d.Ok) (b bs c rest : Nat) (hc : d.n ≤ c) (i e : Int) (l : List (BitVec 8)) (hr : d.read i = (l, e)) :
  Con Try.prog 13 [ptr b 0, iV i] [d.row false b bs c, rowS false bs d.S rest] (fun v rs => ∃ A' b' c', (0 < c' → A' = some ⟨b', 0, none⟩) ∧ l.length ≤ c' ∧ v = .tuple #[.slice A' l.length c', iV e] ∧ rs = [⟨true, b', 0, 5, l.map u8V, c' - l.length⟩]) := by
 obtain ⟨hS, ht, ht1, ht2, hw1, hw2, hn1, hn2⟩ := hok
 refine Con.enter Try.func13 Try.ntmps13 (Nat.le_of_ble_eq_true rfl) rfl fun w => ?_
 refine At.seq ?_
 refine At.region ?_
 refine At.p (some 4) (P_assign rfl rfl) ?_
 refine At.p (some 5) (P_assign rfl rfl) ?_
 refine At.nil ?_
 refine At.next ?_
 refine At.seq ?_
 refine At.seq ?_
 refine At.region ?_
 refine At.p (some 7) (P_move rfl rfl) ?_
 refine At.p (some 8) (P_move rfl rfl) ?_
 refine At.s (S_callV (some 9) [(0, _)] [] (vs := [_, _]) rfl en40 rfl (VN (by simp) rfl View.all V0) (by simp) (c_may _ _ _ _ _ _ _ _ _) (by rintro _ _ ⟨rfl, rfl⟩; rfl) ?_)
 rintro _ _ ⟨rfl, rfl⟩
 refine At.p (some 6) (P_assign rfl rfl) ?_
 refine At.nil ?_
 refine At.next ?_
 refine At.seq ?_
 refine At.region ?_
 refine At.p (some 10) (P_move rfl rfl) ?_
 refine At.p (some 11) (P_cmp rfl rfl rfl rfl rfl rfl) ?_
 refine At.nil ?_
 refine At.next ?_
 refine At.cond rfl (fun h11 => ?_) (fun h11 => ?_)
 · -- cond 11 t
  have hm : mayE d.off d.n i ≠ 0 := by simpa using h11
  simp only [DM.read, if_pos hm, Prod.mk.injEq] at hr
  obtain ⟨rfl, rfl⟩ := hr
  refine At.seq ?_
  refine At.region ?_
  refine At.p (some 12) (P_move rfl rfl) ?_
  refine At.p (some 4) (P_assign rfl rfl) ?_
  refine At.p (some 5) (P_assign rfl rfl) ?_
  refine At.nil ?_
  refine At.next ?_
  refine At.ret ?_
  refine At.thn_r ?_
  refine At.empty 3 0 5 ?_
  refine At.give (.inl rfl) [3] (rows' := [_]) (vs := [_, _]) rfl ⟨rfl, rfl, trivial⟩ rfl (by simp) (by simp) ⟨none, 0, 0, by simp, by simp, rfl, rfl⟩
 · -- cond 11 f
  obtain ⟨hoff, hi0, hin⟩ := mayE_no h11
  have hm : ¬ mayE d.off d.n i ≠ 0 := by simpa using h11
  obtain ⟨k, rfl⟩ := Int.eq_ofNat_of_zero_le hi0
  have hk : k < d.n := by omega
  simp only [DM.read, if_neg hm, Prod.mk.injEq, Int.toNat_natCast] at hr
  obtain ⟨rfl, rfl⟩ := hr
  have hlen : (d.sector k).length = 64 := by simp [DM.sector]; omega
  refine At.skip ?_
  refine At.next ?_
  refine At.seq ?_
  refine At.region ?_
  refine At.p (some 13) (P_move rfl rfl) ?_
  refine At.p (some 14) (P_nilCheck rfl rfl) ?_
  refine At.p (some 15) (P_fieldAddr0 (off := 0) rfl Try.underlying71 rfl sz69 rfl rfl) ?_
  refine At.q (some 16) (Q_loadO (k := 0) rfl rfl Try.underlying69 rfl rfl rfl) ?_
  refine At.p (some 17) (P_move rfl rfl) ?_
  refine At.p (some 18) (P_indexAddr_sl rfl Try.underlying69 sz74 rfl rfl rfl rfl (by omega)) ?_
  refine At.p (some 19) (P_slice_arr rfl Try.underlying74 sz5 rfl rfl rfl rfl (by omega) (by omega) (by omega) (by omega)) ?_
  refine At.s (S_callV (some 20) [(1, _)] [3] (vs := [_]) rfl en41 rfl (VN (by simp) rfl (View.sub (j := k * 64) (m := 64) (by omega) rfl) V0) (by simp) (c_CloneB _ 64 _ bs _ 0 0 ((d.sector k).map u8V) (fun _ => rfl) (by simp [hlen]) (by intro u hu; obtain ⟨z, _, rfl⟩ := List.mem_map.1 hu; rfl) (by decide)) (by rintro _ _ ⟨A', b', c', g1, g2, rfl, rfl⟩; rfl) ?_)
  rintro _ _ ⟨A', b', c', g1, g2, rfl, rfl⟩
  refine At.p (some 4) (P_assign rfl rfl) ?_
  refine At.p (some 5) (P_assign rfl rfl) ?_
  refine At.nil ?_
  refine At.next ?_
  refine At.ret ?_
  refine At.give (.inl rfl) [3] (rows' := [_]) (vs := [_, _]) rfl ⟨rfl, rfl, trivial⟩ rfl (by simp) (by simp) ⟨A', b', c', g1, by omega, by rw [← hlen]; rfl, by simp [hlen]⟩
theorem splice_get {α : Type} (S l : List α) (p i : Nat) (h : p + l.length ≤ S.length) : (splice S p l)[i]? = if p ≤ i ∧ i < p + l.length then l[i - p]? else S[i]? := by
 unfold splice
 rw [List.append_assoc, List.getElem?_append, List.length_take, Nat.min_eq_left (by omega)]
 by_cases h1 : i < p
 · rw [if_pos h1, if_neg (by omega), List.getElem?_take, if_pos h1]
 ·
  rw [if_neg h1, List.getElem?_append]
  by_cases h2 : i - p < l.length
  · rw [if_pos h2, if_pos (by omega)]
  ·
   rw [if_neg h2, if_neg (by omega), List.getElem?_drop]
   congr 1
   omega
theorem sector_get (d : DM) (s j : Nat) : (d.sector s)[j]? = if j < 64 then d.S[s * 64 + j]? else none := by
 unfold DM.sector
 rw [List.getElem?_take]
 split
 · rw [List.getElem?_drop]
 · rfl
theorem sector_same {d d' : DM} {s : Nat} {l : List (BitVec 8)} (hS : d'.S = splice d.S (s * 64) l) (hl : l.length ≤ 64) (h : s * 64 + 64 ≤ d.S.length) : d'.sector s = l ++ (d.sector s).drop l.length := by
 apply List.ext_getElem?
 intro j
 rw [sector_get, hS, splice_get _ _ _ _ (by omega), List.getElem?_append, List.getElem?_drop, sector_get]
 by_cases h1 : j < l.length
 ·
  rw [if_pos (by omega), if_pos (by omega), if_pos h1]
  congr 1
  omega
 ·
  rw [if_neg h1]
  by_cases h2 : j < 64
  ·
   rw [if_pos h2, if_neg (by omega), if_pos (by omega)]
   congr 1
   omega
  · rw [if_neg h2, if_neg (by omega)]
theorem sector_other {d d' : DM} {s s' : Nat} {l : List (BitVec 8)} (hS : d'.S = splice d.S (s * 64) l) (hl : l.length ≤ 64) (h : s * 64 + 64 ≤ d.S.length) (hne : s' ≠ s) : d'.sector s' = d.sector s' := by
 apply List.ext_getElem?
 intro j
 rw [sector_get, sector_get, hS]
 split
 ·
  rw [splice_get _ _ _ _ (by omega), if_neg]
  rintro ⟨h1, h2⟩
  rcases Nat.lt_or_ge s s' with h3 | h3
  ·
   have : (s + 1) * 64 ≤ s' * 64 := Nat.mul_le_mul_right _ h3
   omega
  ·
   have : (s' + 1) * 64 ≤ s * 64 := Nat.mul_le_mul_right _ (by omega)
   omega
 · rfl
theorem c_WriteE {d d' : DM} {e : Int} (hok : d.Ok) (b bs c rest : Nat) (hc : d.n ≤ c) {i : Int} {A : Option Addr} {ca bq q : Nat} {l : List (BitVec 8)} (hA : 0 < l.length → A = some ⟨bq, q, none⟩) (h : d.write i l = (d', e)) :
  Con Try.prog 11 [ptr b 0, iV i, .slice A l.length ca] (d.rows b bs c rest ++ [bytesRow bq q l]) (fun v rs => v = iV e ∧ rs = d'.rows b bs c rest) := by
 have := c_Write d hok b bs c rest hc i A ca bq q l hA
 rwa [h] at this
def fill255 (k : Nat) : List (BitVec 8) := (List.range k).map (fun _ => 255#8) ++ List.replicate (64 - k) 0#8
def rowB (b : Nat) (l : List (BitVec 8)) : Row := ⟨true, b, 0, 5, l.map u8V, 0⟩
theorem fill255_set {k : Nat} (h : k < 64) : (fill255 k).set k 255#8 = fill255 (k + 1) := fill_set (fun _ => 255#8) 0#8 h
theorem fill255_length {k : Nat} (h : k ≤ 64) : (fill255 k).length = 64 := by simp [fill255]; omega
def dT : DM := (DM.new 2).fail 0 10
def dT2 : DM := (dT.write 1 (fill255 64)).1
theorem dT_ok : dT.Ok := DM.fail_ok (DM.new_ok (by decide) (by decide)) (by decide)
theorem dT_w : dT.write 1 (fill255 64) = (dT2, 6) := rfl
theorem dT2_ok : dT2.Ok := DM.write_ok dT_ok (by decide)
def secT : List (BitVec 8) := dT2.up.sector 1
theorem secT_r : dT2.up.read 1 = (secT, 0) := rfl
theorem secT_len : secT.length = 64 := by decide +kernel
theorem secT_9 : (secT.getD 9 0 == 255#8) = true := by decide +kernel
theorem secT_10 : (secT.getD 10 0 == 0#8) = true := by decide +kernel
theorem dT2_wr : (dT2.wr == 1) = true := by decide +kernel
theorem dT2_off : (!(!dT2.off)) = true := by decide +kernel

theorem c_tears  :
  Con Try.prog 14 [] [] (fun v rs => v = .bool true ∧ rs = []) := by
 refine Con.enter Try.func14 Try.ntmps14 (Nat.le_of_ble_eq_true rfl) rfl fun w => ?_
 refine At.seq ?_
 refine At.region ?_
 refine At.p (some 0) (P_assign rfl rfl) ?_
 refine At.nil ?_
 refine At.next ?_
 refine At.seq ?_
 refine At.region ?_
 refine At.s (S_callV (some 10) [] [0, 1] (vs := [_]) rfl en9 rfl V0 (by simp) (c_New 2 (by decide) (by decide)) (by rintro _ _ ⟨b0, b1, rfl, rfl⟩; rfl) ?_)
 rintro _ _ ⟨b0, b1, rfl, rfl⟩
 refine At.p (some 9) (P_move rfl rfl) ?_
 refine At.p (some 11) (P_extract rfl rfl rfl) ?_
 refine At.p (some 12) (P_extract rfl rfl rfl) ?_
 refine At.p (some 1) (P_assign rfl rfl) ?_
 refine At.p (some 2) (P_assign rfl rfl) ?_
 refine At.nil ?_
 refine At.next ?_
 refine At.seq ?_
 refine At.region ?_
 refine At.p (some 13) (P_move rfl rfl) ?_
 refine At.s (S_callR (some 14) [(0, _), (1, _)] [] [0, 1] (vs := [_, _, _]) rfl en10 rfl (ON rfl rfl (ON rfl rfl O0)) (by simp) V0 (by simp) (c_Fail (DM.new 2) _ _ _ _ 0 10) (by rintro _ _ ⟨rfl, rfl⟩; rfl) ?_)
 rintro _ _ ⟨rfl, rfl⟩
 refine At.nil ?_
 refine At.next ?_
 refine At.seq ?_
 refine At.region ?_
 refine At.s (S_makeN (some 15) 2 (n := 64) (cs := (List.replicate (64) 0#8).map u8V) rfl Try.underlying27 sz5 by5 ze5 rfl rfl (by omega) (by omega) (by omega) (by omega) ((made_one (n := 64) (by omega)).trans (by rw [List.map_replicate]; rfl)) (fun b2 => ?_))
 refine At.p (some 3) (P_assign rfl rfl) ?_
 refine At.nil ?_
 refine At.next ?_
 refine At.seq ?_
 refine At.seq ?_
 refine At.region ?_
 refine At.p (some 4) (P_assign rfl rfl) ?_
 refine At.nil ?_
 refine At.next ?_
 refine At.block ?_
 refine At.loopx (I := fun m fr H => ∃ k, m = 64 - k ∧ fr = frOf [(1, ptr b0 0), (2, iV 0), (3, .slice (some ⟨b2, 0, none⟩) 64 64), (4, iV (k : Int))] ∧ H = hOf [(0, dT.row true b0 b1 2), (1, rowS true b1 dT.S 0), (2, rowB b2 (fill255 k))] ∧ k ≤ 64) ?_ ?_
 ·
  intro Kc0 hKc0
  refine At.to [(1, _), (2, _), (3, _), (4, _)] [(0, _), (1, _), (2, _)] (AllL.cons_ (rfl) (AllL.cons_ (rfl) (AllL.cons_ (rfl) (AllL.cons_ (rfl) trivial)))) (AllL.cons_ (rfl) (AllL.cons_ (rfl) (AllL.cons_ (rfl) trivial))) ?_
  exact hKc0 _ _ _ ⟨0, rfl, rfl, rfl, by omega⟩
 ·
  rintro m fr H ⟨k, rfl, rfl, rfl, hk⟩ Kc0 hKc0
  refine At.seq ?_
  refine At.seq ?_
  refine At.region ?_
  refine At.p (some 16) (P_move rfl rfl) ?_
  refine At.p (some 17) (P_cmp rfl rfl rfl rfl rfl rfl) ?_
  refine At.nil ?_
  refine At.next ?_
  refine At.cond rfl (fun h17 => ?_) (fun h17 => ?_)
  · -- cond 17 t
   have hlt : k < 64 := by simp at h17; omega
   refine At.skip ?_
   refine At.next ?_
   refine At.seq ?_
   refine At.block ?_
   refine At.region ?_
   refine At.p (some 20) (P_move rfl rfl) ?_
   refine At.p (some 21) (P_move rfl rfl) ?_
   refine At.p (some 22) (P_indexAddr_slz rfl Try.underlying27 sz5 rfl rfl rfl rfl (by omega)) ?_
   refine At.s (S_storeM none (f := u8V) (k := 2) (u := 255#8) rfl rfl rfl sz5 rfl rfl rfl (by rw [fill255_length (by omega)]; exact hlt) ?_)
   refine At.nil ?_
   refine At.inb_n ?_
   refine At.next ?_
   refine At.region ?_
   refine At.p (some 18) (P_move rfl rfl) ?_
   refine At.p (some 19) (P_add_i rfl rfl rfl (by omega)) ?_
   refine At.p (some 4) (P_assign rfl rfl) ?_
   refine At.nil ?_
   refine At.next ?_
   refine At.to [(1, _), (2, _), (3, _), (4, _)] [(0, _), (1, _), (2, rowB b2 (fill255 (k + 1)))] (AllL.cons_ (rfl) (AllL.cons_ (rfl) (AllL.cons_ (rfl) (AllL.cons_ (rfl) trivial)))) (AllL.cons_ (rfl) (AllL.cons_ (rfl) (AllL.cons_ (congrArg (fun l => some (rowB b2 l)) (fill255_set (by omega))) trivial))) ?_
   exact hKc0 _ _ _ (by omega) ⟨k + 1, rfl, rfl, rfl, by omega⟩
  · -- cond 17 f
   obtain rfl : k = 64 := by simp at h17; omega
   refine At.exit ?_
   refine At.thn_e ?_
   refine At.thn_e ?_
   refine At.inb_hit ?_
   refine At.next ?_
   refine At.seq ?_
   refine At.region ?_
   refine At.p (some 23) (P_move rfl rfl) ?_
   refine At.p (some 24) (P_move rfl rfl) ?_
   refine At.s (S_callR (some 25) [(0, _), (1, _)] [(2, _)] [0, 1] (vs := [_, _, _]) rfl en11 rfl (ON rfl rfl (ON rfl rfl O0)) (by simp) (VN (by simp) rfl View.all V0) (by simp) (c_WriteE (l := fill255 64) dT_ok _ _ 2 _ (by decide) (fun _ => rfl) dT_w) (by rintro _ _ ⟨rfl, rfl⟩; rfl) ?_)
   rintro _ _ ⟨rfl, rfl⟩
   refine At.p (some 5) (P_assign rfl rfl) ?_
   refine At.nil ?_
   refine At.next ?_
   refine At.seq ?_
   refine At.region ?_
   refine At.p (some 26) (P_move rfl rfl) ?_
   refine At.s (S_callV (some 27) [(0, _)] [] (vs := [_]) rfl en17 rfl (VN (by simp) rfl View.all V0) (by simp) (c_On dT2 _ _ _) (by rintro _ _ ⟨rfl, rfl⟩; rfl) ?_)
   rintro _ _ ⟨rfl, rfl⟩
   refine At.p (some 28) (P_not rfl rfl) ?_
   refine At.p (some 6) (P_assign rfl rfl) ?_
   refine At.nil ?_
   refine At.next ?_
   refine At.seq ?_
   refine At.region ?_
   refine At.p (some 29) (P_move rfl rfl) ?_
   refine At.s (S_callR (some 30) [(0, _), (1, _)] [] [0, 1] (vs := [_]) rfl en12 rfl (ON rfl rfl (ON rfl rfl O0)) (by simp) V0 (by simp) (c_Up dT2 _ _ _ _) (by rintro _ _ ⟨rfl, rfl⟩; rfl) ?_)
   rintro _ _ ⟨rfl, rfl⟩
   refine At.nil ?_
   refine At.next ?_
   refine At.seq ?_
   refine At.region ?_
   refine At.p (some 32) (P_move rfl rfl) ?_
   refine At.s (S_callV (some 33) [(0, _), (1, _)] [3] (vs := [_, _]) rfl en13 rfl (VN (by simp) rfl View.all (VN (by simp) rfl View.all V0)) (by simp) (c_Read dT2.up (DM.up_ok dT2_ok) _ _ 2 0 (by decide) 1 0 secT secT_r) (by rintro _ _ ⟨A3, b3, c3, g3, g4, rfl, rfl⟩; rfl) ?_)
   rintro _ _ ⟨A3, b3, c3, g3, g4, rfl, rfl⟩
   refine At.p (some 31) (P_move rfl rfl) ?_
   refine At.p (some 34) (P_extract rfl rfl rfl) ?_
   refine At.p (some 35) (P_extract rfl rfl rfl) ?_
   refine At.p (some 7) (P_assign rfl rfl) ?_
   refine At.p (some 8) (P_assign rfl rfl) ?_
   refine At.nil ?_
   refine At.next ?_
   refine At.seq ?_
   refine At.region ?_
   refine At.p (some 36) (P_move rfl rfl) ?_
   refine At.p (some 37) (P_cmp rfl rfl rfl rfl rfl rfl) ?_
   refine At.p (some 38) (P_move rfl rfl) ?_
   refine At.gy (t := 38) rfl rfl rfl rfl ?_
   refine At.p (some 39) (P_move rfl rfl) ?_
   refine At.gy (t := 38) rfl rfl rfl rfl ?_
   refine At.p (some 40) (P_cmp rfl rfl rfl rfl rfl rfl) ?_
   refine At.p (some 41) (P_pick_t rfl rfl rfl rfl) ?_
   refine At.p (some 42) (P_move rfl rfl) ?_
   refine At.gy (t := 42) rfl rfl rfl rfl ?_
   refine At.p (some 43) (P_move rfl rfl) ?_
   refine At.p (some 44) (P_pick_t rfl rfl rfl rfl) ?_
   refine At.p (some 45) (P_move rfl rfl) ?_
   refine At.gy (t := 45) rfl dT2_off rfl rfl ?_
   refine At.p (some 46) (P_move rfl rfl) ?_
   refine At.gy (t := 45) rfl dT2_off rfl rfl ?_
   refine At.p (some 47) (P_cmp rfl rfl rfl rfl rfl rfl) ?_
   refine At.p (some 48) (P_pick_t rfl rfl dT2_off rfl) ?_
   refine At.p (some 49) (P_move rfl rfl) ?_
   refine At.gy (t := 49) rfl rfl rfl rfl ?_
   refine At.p (some 50) (P_move rfl rfl) ?_
   refine At.gy (t := 49) rfl rfl rfl rfl ?_
   refine At.p (some 51) (P_len_sl rfl rfl ⟨_, Try.underlying27⟩ rfl) ?_
   refine At.gy (t := 49) rfl rfl rfl rfl ?_
   refine At.p (some 52) (P_cmp rfl rfl rfl rfl rfl rfl) ?_
   refine At.p (some 53) (P_pick_t rfl rfl rfl rfl) ?_
   refine At.p (some 54) (P_move rfl rfl) ?_
   refine At.gy (t := 54) rfl (by rw [secT_len]; rfl) rfl rfl ?_
   refine At.p (some 55) (P_move rfl rfl) ?_
   refine At.gy (t := 54) rfl (by rw [secT_len]; rfl) rfl rfl ?_
   refine At.p (some 56) (P_indexAddr_sl1 (j := 9) rfl Try.underlying27 sz5 rfl (g3 (Nat.lt_of_lt_of_le (by rw [secT_len]; decide) g4)) rfl rfl (by rw [secT_len]; decide)) ?_
   refine At.gy (t := 54) rfl (by rw [secT_len]; rfl) rfl rfl ?_
   refine At.q (some 57) (Q_loadR (k := 3) (j := 9) (0#8) rfl rfl Try.underlying5 rfl rfl rfl (by rw [secT_len]; decide)) ?_
   refine At.gy (t := 54) rfl (by rw [secT_len]; rfl) rfl rfl ?_
   refine At.p (some 58) (P_eql_w (n := 8) (b := 255#8) rfl rfl rfl) ?_
   refine At.p (some 59) (P_pick_t rfl rfl (by rw [secT_len]; rfl) rfl) ?_
   refine At.p (some 60) (P_move rfl rfl) ?_
   refine At.gy (t := 60) rfl secT_9 rfl rfl ?_
   refine At.p (some 61) (P_move rfl rfl) ?_
   refine At.gy (t := 60) rfl secT_9 rfl rfl ?_
   refine At.p (some 62) (P_indexAddr_sl1 (j := 10) rfl Try.underlying27 sz5 rfl (g3 (Nat.lt_of_lt_of_le (by rw [secT_len]; decide) g4)) rfl rfl (by rw [secT_len]; decide)) ?_
   refine At.gy (t := 60) rfl secT_9 rfl rfl ?_
   refine At.q (some 63) (Q_loadR (k := 3) (j := 10) (0#8) rfl rfl Try.underlying5 rfl rfl rfl (by rw [secT_len]; decide)) ?_
   refine At.gy (t := 60) rfl secT_9 rfl rfl ?_
   refine At.p (some 64) (P_eql_w (n := 8) (b := 0#8) rfl rfl rfl) ?_
   refine At.p (some 65) (P_pick_t rfl rfl secT_9 rfl) ?_
   refine At.p (some 66) (P_move rfl rfl) ?_
   refine At.gy (t := 66) rfl secT_10 rfl rfl ?_
   refine At.p (some 67) (P_move rfl rfl) ?_
   refine At.gy (t := 66) rfl secT_10 rfl rfl ?_
   refine At.s (S_callV (some 68) [(0, _)] [] (vs := [_]) rfl en15 rfl (VN (by simp) rfl View.all V0) (by simp) (c_Writes dT2.up _ _ _) (by rintro _ _ ⟨rfl, rfl⟩; rfl) ?_)
   rintro _ _ ⟨rfl, rfl⟩
   refine At.gy (t := 66) rfl secT_10 rfl rfl ?_
   refine At.p (some 69) (P_cmp rfl rfl rfl rfl rfl rfl) ?_
   refine At.p (some 70) (P_pick_t rfl rfl secT_10 rfl) ?_
   refine At.p (some 0) (P_assign rfl rfl) ?_
   refine At.nil ?_
   refine At.next ?_
   refine At.ret ?_
   refine At.give (.inl rfl) [] (rows' := []) (vs := [_]) rfl ⟨rfl, trivial⟩ rfl (by simp) (by simp) ⟨congrArg Value.bool dT2_wr, rfl⟩


end Go.Proofs.Ytdingfinclcbgaa
