import Derived.Test.YtdingfinclcbgaaDA1
import Derived.Test.YtdingfinclcbgaaSE38
import Derived.Test.YtdingfinclcbgaaSE39
import Derived.Test.YtdingfinclcbgaaSE41
import Derived.Test.YtdingfinclcbgaaSE10
namespace Go.Proofs.Ytdingfinclcbgaa
set_option maxRecDepth 20000
set_option linter.unusedVariables false
set_option linter.unusedSimpArgs false
open Go.SE Go.RowKit
def pRow (b s : Nat) (l : List (BitVec 8)) : Row := ⟨false, b, s, 0, l.map u8V, 0⟩
/-! the disk of the document: a family of sectors -/
def SecOk (d : DM) (es : List BG) : Prop := es.length = d.n ∧ ∀ i, i < d.n → (es.getD i default).l = d.sector i
structure ActE where
 w : Int
 i : Int
 n : Int
 B : BG
instance : Inhabited ActE := ⟨⟨0, 0, 0, default⟩⟩
def ActN : Enc ActE where
 f e := [iV e.w, iV e.i, iV e.n, e.B.v]
 sz := 4
 pos := by decide
 len _ := rfl
 one e u hu := by
  simp only [List.mem_cons, List.not_mem_nil, or_false] at hu
  rcases hu with rfl | rfl | rfl | rfl <;> rfl
def ActE.ok (e : ActE) : Prop := (-9223372036854775808 ≤ e.w ∧ e.w ≤ 9223372036854775807) ∧ (-9223372036854775808 ≤ e.i ∧ e.i ≤ 9223372036854775807) ∧ (-9223372036854775808 ≤ e.n ∧ e.n ≤ 9223372036854775807) ∧ e.B.okR
theorem getD_B (L : List ActE) (k : Nat) : (L.map ActE.B).getD k default = (L.getD k default).B := by
 rw [List.getD_eq_getElem?_getD, List.getD_eq_getElem?_getD, List.getElem?_map]
 cases L[k]? <;> rfl
theorem getD_act {L : List ActE} (h : ∀ e ∈ L, e.ok) {k : Nat} (hk : k < L.length) : (L.getD k default).ok := by
 rw [List.getD_eq_getElem?_getD, List.getElem?_eq_getElem hk]
 exact h _ (List.getElem_mem hk)
def rdX (off : Bool) (es : List BG) (i : Int) : BG := if mayE off es.length i = 0 then es.getD i.toNat default else default
theorem rdX_off {es : List BG} {i : Int} : rdX true es i = default := by simp [rdX, mayE]
theorem rdX_out {es : List BG} {i : Int} (h : ¬ (0 ≤ i ∧ i < es.length)) : rdX false es i = default := by
 rw [rdX, if_neg]
 unfold mayE
 rw [if_neg (by simp), if_pos (by omega)]
 decide
theorem rdX_in {es : List BG} {i : Int} (h : 0 ≤ i ∧ i < es.length) : rdX false es i = es.getD i.toNat default := by
 rw [rdX, if_pos]
 unfold mayE
 rw [if_neg (by simp), if_neg (by omega)]
theorem mayE_off {n : Nat} {i : Int} : mayE true n i = 6 := rfl
theorem mayE_out {n : Nat} {i : Int} (h : ¬ (0 ≤ i ∧ i < n)) : mayE false n i = 1 := by
 unfold mayE
 rw [if_neg (by simp), if_pos (by omega)]
theorem mayE_in {n : Nat} {i : Int} (h : 0 ≤ i ∧ i < n) : mayE false n i = 0 := by
 unfold mayE
 rw [if_neg (by simp), if_neg (by omega)]
theorem mayE_0 {off : Bool} {n : Nat} {i : Int} (h : mayE off n i = 0) : off = false ∧ 0 ≤ i ∧ i < n := mayE_no (by rw [h]; rfl)
/-- What the document writes. -/
def wrL (till : Int) (torn : Nat) (l o : List (BitVec 8)) : List (BitVec 8) := if till = 0 then l.take torn ++ o.drop torn else l
def wrE (till : Int) : Int := if till = 0 then 6 else 0
theorem sec_len {d : DM} (h : d.Ok) {i : Nat} (hi : i < d.n) : (d.sector i).length = 64 := by
 have := h.1
 simp [DM.sector]; omega
theorem wr_no {d : DM} {i : Int} {l : List (BitVec 8)} (h : mayE d.off d.n i ≠ 0 ∨ l.length ≠ 64) : (d.write i l).1 = d ∧ (d.write i l).2 = if mayE d.off d.n i ≠ 0 then mayE d.off d.n i else 1 := by
 unfold DM.write
 by_cases h1 : mayE d.off d.n i ≠ 0
 · rw [if_pos h1, if_pos h1]; exact ⟨rfl, rfl⟩
 ·
  rw [if_neg h1, if_neg h1]
  rcases h with h | h
  · exact absurd h h1
  · rw [if_pos h]; exact ⟨rfl, rfl⟩
theorem wr_yes {d : DM} (hok : d.Ok) {k : Nat} {l : List (BitVec 8)} (h : mayE d.off d.n k = 0) (hl : l.length = 64) :
  (d.write k l).2 = wrE d.till ∧ (d.write k l).1.n = d.n ∧ (d.write k l).1.off = decide (d.till = 0) ∧ (d.write k l).1.till = max (d.till - 1) (-1) ∧ (d.write k l).1.torn = d.torn ∧ (d.write k l).1.wr = d.wr + 1 ∧
   (d.write k l).1.sector k = wrL d.till d.torn l (d.sector k) ∧ ∀ j, j ≠ k → (d.write k l).1.sector j = d.sector j := by
 obtain ⟨h1, h2, h3, h4, h5, h6, h7, h8⟩ := hok
 obtain ⟨ho, _, hk⟩ := mayE_0 h
 have hk : k < d.n := by omega
 unfold DM.write
 rw [if_neg (by rw [h]; decide), if_neg (by omega)]
 by_cases ht : d.till = 0
 ·
  rw [if_pos ht]
  have htl : (l.take d.torn).length = d.torn := by rw [List.length_take]; omega
  refine ⟨by simp [wrE, ht], rfl, by simp [ht], by rw [ht]; rfl, rfl, rfl, ?_, fun j hj => ?_⟩
  · rw [sector_same (d := d) (l := l.take d.torn) rfl (by omega) (by omega), wrL, if_pos ht, htl]
  · exact sector_other (d := d) (l := l.take d.torn) rfl (by omega) (by omega) hj
 ·
  rw [if_neg ht]
  refine ⟨by simp [wrE, ht], rfl, by simp [ht, ho], rfl, rfl, rfl, ?_, fun j hj => ?_⟩
  · rw [Int.toNat_natCast, sector_same (d := d) (l := l) rfl (by omega) (by omega), wrL, if_neg ht, List.drop_eq_nil_of_le (by rw [hl]; simp [DM.sector]; omega), List.append_nil]
  · exact sector_other (d := d) (l := l) rfl (by omega) (by omega) hj
theorem SecOk.write {d : DM} (hok : d.Ok) {es : List BG} (hs : SecOk d es) {k : Nat} {l : List (BitVec 8)} (h : mayE d.off d.n k = 0) (hl : l.length = 64) {y : BG} (hy : y.l = wrL d.till d.torn l (es.getD k default).l) : SecOk (d.write k l).1 (es.set k y) := by
 obtain ⟨_, g2, _, _, _, _, g7, g8⟩ := wr_yes hok h hl
 obtain ⟨_, _, hk⟩ := mayE_0 h
 have hk : k < d.n := by omega
 refine ⟨by rw [List.length_set, g2]; exact hs.1, fun i hi => ?_⟩
 rw [g2] at hi
 rw [List.getD_eq_getElem?_getD, List.getElem?_set]
 by_cases hik : k = i
 ·
  subst hik
  rw [if_pos rfl, if_pos (by rw [hs.1]; exact hk), g7, ← hs.2 k hk]
  exact hy
 · rw [if_neg hik, g8 i (fun h => hik h.symm), ← hs.2 i hi, List.getD_eq_getElem?_getD]
theorem ok_set {es : List BG} (h : ∀ e ∈ es, e.ok) {y : BG} (hy : y.ok) (k : Nat) : ∀ e ∈ es.set k y, e.ok := fun e he => by
 rcases List.mem_or_eq_of_mem_set he with he | rfl
 · exact h e he
 · exact hy
theorem SecOk.new {n : Nat} {es : List BG} (hl : es.length = n) (h : ∀ e ∈ es, e.l = List.replicate 64 0#8) : SecOk (DM.new n) es := by
 refine ⟨hl, fun i hi => ?_⟩
 have hi : i < n := hi
 rw [h _ (getDG_mem (by omega))]
 show _ = ((List.replicate (n * 64) 0).drop (i * 64)).take 64
 rw [List.drop_replicate, List.take_replicate]
 congr 1
 omega
theorem DM.write_n {d : DM} {i : Int} {l : List (BitVec 8)} : (d.write i l).1.n = d.n := by
 unfold DM.write
 split
 · rfl
 ·
  split
  · rfl
  · split <;> rfl
theorem DM.write_wr {d : DM} {i : Int} {l : List (BitVec 8)} : (d.write i l).1.wr ≤ d.wr + 1 := by
 unfold DM.write
 split
 · dsimp only; omega
 ·
  split
  · dsimp only; omega
  · split <;> (dsimp only; omega)
theorem wr_t {n : Nat} {l o : List (BitVec 8)} : l.take n ++ o.drop n = l.take (n - 0) ++ (o.drop n).take (o.length - n) := by
 rw [Nat.sub_zero, List.take_of_length_le (l := o.drop n) (by rw [List.length_drop]; omega)]
theorem wr_f {l o : List (BitVec 8)} (hl : l.length = 64) (ho : o.length = 64) : l = l.take (64 - 0) ++ (o.drop 64).take (o.length - 64) := by
 rw [List.take_of_length_le (l := l) (by omega), List.drop_eq_nil_of_le (by omega)]
 simp

set_option maxHeartbeats 600000 in
theorem n_may {i : Int}  :
  Con Try.prog 40 [.pointer none, iV i] [] (fun v rs => v = iV 1 ∧ rs = []) := by
 refine Con.enter Try.func40 Try.ntmps40 (Nat.le_of_ble_eq_true rfl) rfl fun w => ?_
 refine At.seq ?_
 refine At.region ?_
 refine At.p (some 4) (P_assign rfl rfl) ?_
 refine At.nil ?_
 refine At.next ?_
 refine At.seq ?_
 refine At.block ?_
 refine At.seq ?_
 refine At.region ?_
 refine At.p (some 6) (P_move rfl rfl) ?_
 refine At.p (some 7) (P_eql_ptr rfl rfl rfl Try.underlying23) ?_
 refine At.p (some 5) (P_assign rfl rfl) ?_
 refine At.nil ?_
 refine At.next ?_
 refine At.cond rfl (fun _ => ?_) (fun h => absurd (h.symm.trans rfl) (by decide))
 refine At.seq ?_
 refine At.region ?_
 refine At.p (some 4) (P_assign rfl rfl) ?_
 refine At.nil ?_
 refine At.next ?_
 refine At.ret ?_
 refine At.inb_r ?_
 refine At.thn_r ?_
 refine At.give (.inl rfl) [] (rows' := []) (vs := [_]) rfl ⟨rfl, trivial⟩ rfl (by simp) (by simp) ⟨rfl, rfl⟩

set_option maxHeartbeats 600000 in
theorem n_Read {i : Int}  :
  Con Try.prog 13 [.pointer none, iV i] [] (fun v rs => v = .tuple #[.slice none 0 0, iV 1] ∧ rs = []) := by
 refine Con.enter Try.func13 Try.ntmps13 (Nat.le_of_ble_eq_true rfl) rfl fun w => ?_
 refine At.seq ?_
 refine At.region ?_
 refine At.p (some 4) (P_assign rfl rfl) ?_
 refine At.p (some 5) (P_assign rfl rfl) ?_
 refine At.nil ?_
 refine At.next ?_
 refine At.seq ?_
 refine At.seq ?_
 refine At.region ?_
 refine At.p (some 7) (P_move rfl rfl) ?_
 refine At.p (some 8) (P_move rfl rfl) ?_
 refine At.s (S_callV (some 9) [] [] (vs := [_, _]) rfl en40 rfl V0 (by simp) (n_may (i := i)) (by rintro _ _ ⟨rfl, rfl⟩; rfl) ?_)
 rintro _ _ ⟨rfl, rfl⟩
 refine At.p (some 6) (P_assign rfl rfl) ?_
 refine At.nil ?_
 refine At.next ?_
 refine At.seq ?_
 refine At.region ?_
 refine At.p (some 10) (P_move rfl rfl) ?_
 refine At.p (some 11) (P_cmp rfl rfl rfl rfl rfl rfl) ?_
 refine At.nil ?_
 refine At.next ?_
 refine At.cond rfl (fun h11 => ?_) (fun h11 => by simp at h11)
 have e11 : 1 ≠ 0 := bne_iff_ne.1 h11
 refine At.seq ?_
 refine At.region ?_
 refine At.p (some 12) (P_move rfl rfl) ?_
 refine At.p (some 4) (P_assign rfl rfl) ?_
 refine At.p (some 5) (P_assign rfl rfl) ?_
 refine At.nil ?_
 refine At.next ?_
 refine At.ret ?_
 refine At.thn_r ?_
 refine At.give (.inl rfl) [] (rows' := []) (vs := [_, _]) rfl ⟨rfl, rfl, trivial⟩ rfl (by simp) (by simp) ⟨rfl, rfl⟩

set_option maxHeartbeats 600000 in
theorem n_Write {i : Int}  :
  Con Try.prog 11 [.pointer none, iV i, .slice none 0 0] [] (fun v rs => v = iV 1 ∧ rs = []) := by
 refine Con.enter Try.func11 Try.ntmps11 (Nat.le_of_ble_eq_true rfl) rfl fun w => ?_
 refine At.seq ?_
 refine At.region ?_
 refine At.p (some 6) (P_assign rfl rfl) ?_
 refine At.nil ?_
 refine At.next ?_
 refine At.seq ?_
 refine At.seq ?_
 refine At.region ?_
 refine At.p (some 8) (P_move rfl rfl) ?_
 refine At.p (some 9) (P_move rfl rfl) ?_
 refine At.s (S_callV (some 10) [] [] (vs := [_, _]) rfl en40 rfl V0 (by simp) (n_may (i := i)) (by rintro _ _ ⟨rfl, rfl⟩; rfl) ?_)
 rintro _ _ ⟨rfl, rfl⟩
 refine At.p (some 7) (P_assign rfl rfl) ?_
 refine At.nil ?_
 refine At.next ?_
 refine At.seq ?_
 refine At.region ?_
 refine At.p (some 11) (P_move rfl rfl) ?_
 refine At.p (some 12) (P_cmp rfl rfl rfl rfl rfl rfl) ?_
 refine At.nil ?_
 refine At.next ?_
 refine At.cond rfl (fun h12 => ?_) (fun h12 => by simp at h12)
 have e12 : 1 ≠ 0 := bne_iff_ne.1 h12
 refine At.seq ?_
 refine At.region ?_
 refine At.p (some 13) (P_move rfl rfl) ?_
 refine At.p (some 6) (P_assign rfl rfl) ?_
 refine At.nil ?_
 refine At.next ?_
 refine At.ret ?_
 refine At.thn_r ?_
 refine At.give (.inl rfl) [] (rows' := []) (vs := [_]) rfl ⟨rfl, trivial⟩ rfl (by simp) (by simp) ⟨rfl, rfl⟩

set_option maxHeartbeats 600000 in
theorem n_Fail {i : Int} {j : Int}  :
  Con Try.prog 10 [.pointer none, iV i, iV j] [] (fun v rs => v = .tuple #[] ∧ rs = []) := by
 refine Con.enter Try.func10 Try.ntmps10 (Nat.le_of_ble_eq_true rfl) rfl fun w => ?_
 refine At.seq ?_
 refine At.region ?_
 refine At.p (some 6) (P_move rfl rfl) ?_
 refine At.p (some 7) (P_neq_ptr rfl rfl rfl Try.underlying23) ?_
 refine At.nil ?_
 refine At.next ?_
 refine At.cond rfl (fun h => absurd (h.symm.trans rfl) (by decide)) (fun _ => ?_)
 refine At.skip ?_
 refine At.give (.inr rfl) [] (rows' := []) (vs := []) rfl trivial rfl (by simp) (by simp) ⟨rfl, rfl⟩

set_option maxHeartbeats 600000 in
theorem n_Up   :
  Con Try.prog 12 [.pointer none] [] (fun v rs => v = .tuple #[] ∧ rs = []) := by
 refine Con.enter Try.func12 Try.ntmps12 (Nat.le_of_ble_eq_true rfl) rfl fun w => ?_
 refine At.seq ?_
 refine At.region ?_
 refine At.p (some 2) (P_move rfl rfl) ?_
 refine At.p (some 3) (P_neq_ptr rfl rfl rfl Try.underlying23) ?_
 refine At.nil ?_
 refine At.next ?_
 refine At.cond rfl (fun h => absurd (h.symm.trans rfl) (by decide)) (fun _ => ?_)
 refine At.skip ?_
 refine At.give (.inr rfl) [] (rows' := []) (vs := []) rfl trivial rfl (by simp) (by simp) ⟨rfl, rfl⟩

set_option maxHeartbeats 600000 in
theorem n_On   :
  Con Try.prog 17 [.pointer none] [] (fun v rs => v = .bool false ∧ rs = []) := by
 refine Con.enter Try.func17 Try.ntmps17 (Nat.le_of_ble_eq_true rfl) rfl fun w => ?_
 refine At.seq ?_
 refine At.region ?_
 refine At.p (some 2) (P_assign rfl rfl) ?_
 refine At.nil ?_
 refine At.next ?_
 refine At.seq ?_
 refine At.region ?_
 refine At.p (some 3) (P_move rfl rfl) ?_
 refine At.p (some 4) (P_neq_ptr rfl rfl rfl Try.underlying23) ?_
 refine At.p (some 5) (P_move rfl rfl) ?_
 refine At.gn (some 6) (t := 5) rfl rfl rfl rfl ?_
 refine At.gn (some 7) (t := 5) rfl rfl rfl rfl ?_
 refine At.gn (some 8) (t := 5) rfl rfl rfl rfl ?_
 refine At.gn (some 9) (t := 5) rfl rfl rfl rfl ?_
 refine At.gn (some 10) (t := 5) rfl rfl rfl rfl ?_
 refine At.p (some 11) (P_pick_f rfl rfl rfl rfl) ?_
 refine At.p (some 2) (P_assign rfl rfl) ?_
 refine At.nil ?_
 refine At.next ?_
 refine At.ret ?_
 refine At.give (.inl rfl) [] (rows' := []) (vs := [_]) rfl ⟨rfl, trivial⟩ rfl (by simp) (by simp) ⟨rfl, rfl⟩

set_option maxHeartbeats 600000 in
theorem n_Size   :
  Con Try.prog 18 [.pointer none] [] (fun v rs => v = iV 0 ∧ rs = []) := by
 refine Con.enter Try.func18 Try.ntmps18 (Nat.le_of_ble_eq_true rfl) rfl fun w => ?_
 refine At.seq ?_
 refine At.region ?_
 refine At.p (some 2) (P_assign rfl rfl) ?_
 refine At.nil ?_
 refine At.next ?_
 refine At.seq ?_
 refine At.seq ?_
 refine At.region ?_
 refine At.p (some 3) (P_move rfl rfl) ?_
 refine At.p (some 4) (P_eql_ptr rfl rfl rfl Try.underlying23) ?_
 refine At.nil ?_
 refine At.next ?_
 refine At.cond rfl (fun _ => ?_) (fun h => absurd (h.symm.trans rfl) (by decide))
 refine At.seq ?_
 refine At.region ?_
 refine At.p (some 2) (P_assign rfl rfl) ?_
 refine At.nil ?_
 refine At.next ?_
 refine At.ret ?_
 refine At.thn_r ?_
 refine At.give (.inl rfl) [] (rows' := []) (vs := [_]) rfl ⟨rfl, trivial⟩ rfl (by simp) (by simp) ⟨rfl, rfl⟩

set_option maxHeartbeats 600000 in
theorem n_Writes   :
  Con Try.prog 15 [.pointer none] [] (fun v rs => v = iV 0 ∧ rs = []) := by
 refine Con.enter Try.func15 Try.ntmps15 (Nat.le_of_ble_eq_true rfl) rfl fun w => ?_
 refine At.seq ?_
 refine At.region ?_
 refine At.p (some 2) (P_assign rfl rfl) ?_
 refine At.nil ?_
 refine At.next ?_
 refine At.seq ?_
 refine At.seq ?_
 refine At.region ?_
 refine At.p (some 3) (P_move rfl rfl) ?_
 refine At.p (some 4) (P_eql_ptr rfl rfl rfl Try.underlying23) ?_
 refine At.nil ?_
 refine At.next ?_
 refine At.cond rfl (fun _ => ?_) (fun h => absurd (h.symm.trans rfl) (by decide))
 refine At.seq ?_
 refine At.region ?_
 refine At.p (some 2) (P_assign rfl rfl) ?_
 refine At.nil ?_
 refine At.next ?_
 refine At.ret ?_
 refine At.thn_r ?_
 refine At.give (.inl rfl) [] (rows' := []) (vs := [_]) rfl ⟨rfl, trivial⟩ rfl (by simp) (by simp) ⟨rfl, rfl⟩

set_option maxHeartbeats 600000 in
theorem n_Copy   :
  Con Try.prog 19 [.pointer none] [] (fun v rs => v = .pointer none ∧ rs = []) := by
 refine Con.enter Try.func19 Try.ntmps19 (Nat.le_of_ble_eq_true rfl) rfl fun w => ?_
 refine At.seq ?_
 refine At.region ?_
 refine At.p (some 2) (P_assign rfl rfl) ?_
 refine At.nil ?_
 refine At.next ?_
 refine At.seq ?_
 refine At.seq ?_
 refine At.region ?_
 refine At.p (some 4) (P_move rfl rfl) ?_
 refine At.p (some 5) (P_eql_ptr rfl rfl rfl Try.underlying23) ?_
 refine At.nil ?_
 refine At.next ?_
 refine At.cond rfl (fun _ => ?_) (fun h => absurd (h.symm.trans rfl) (by decide))
 refine At.seq ?_
 refine At.region ?_
 refine At.p (some 2) (P_assign rfl rfl) ?_
 refine At.nil ?_
 refine At.next ?_
 refine At.ret ?_
 refine At.thn_r ?_
 refine At.give (.inl rfl) [] (rows' := []) (vs := [_]) rfl ⟨rfl, trivial⟩ rfl (by simp) (by simp) ⟨rfl, rfl⟩

set_option maxHeartbeats 600000 in
theorem c_none   :
  Con Try.prog 16 [] [] (fun v rs => v = .pointer none ∧ rs = []) := by
 refine Con.enter Try.func16 Try.ntmps16 (Nat.le_of_ble_eq_true rfl) rfl fun w => ?_
 refine At.seq ?_
 refine At.region ?_
 refine At.p (some 0) (P_assign rfl rfl) ?_
 refine At.nil ?_
 refine At.next ?_
 refine At.seq ?_
 refine At.region ?_
 refine At.p (some 0) (P_assign rfl rfl) ?_
 refine At.nil ?_
 refine At.next ?_
 refine At.ret ?_
 refine At.give (.inl rfl) [] (rows' := []) (vs := [_]) rfl ⟨rfl, trivial⟩ rfl (by simp) (by simp) ⟨rfl, rfl⟩

theorem c_WriteN (d : DM) (hok : d.Ok) (b bs c rest : Nat) (hc : d.n ≤ c) {i : Int} {A : Option Addr} {ca bq q nl : Nat} {l : List (BitVec 8)} (hl : l.length = nl) (hA : 0 < nl → A = some ⟨bq, q, none⟩) :
  Con Try.prog 11 [ptr b 0, iV i, .slice A nl ca] [d.row true b bs c, rowS true bs d.S rest, pRow bq q l] (fun v rs => v = iV (d.write i l).2 ∧ rs = [(d.write i l).1.row true b bs c, rowS true bs (d.write i l).1.S rest]) := by
 subst hl
 exact c_Write d hok b bs c rest hc i A ca bq q l hA

set_option maxHeartbeats 600000 in
theorem c_Copy0 {d : DM} {b bs c rest : Nat} (hok : d.Ok) (hc : d.n ≤ c) :
  Con Try.prog 19 [ptr b 0] [(DM.row d false b bs c), (rowS false bs d.S rest)] (fun v rs => ∃ b' bs' c', d.n ≤ c' ∧ v = ptr b' 0 ∧ rs = d.rows b' bs' c' ((c' - d.n) * 64)) := by
 refine Con.enter Try.func19 Try.ntmps19 (Nat.le_of_ble_eq_true rfl) rfl fun w => ?_
 refine At.seq ?_
 refine At.region ?_
 refine At.p (some 2) (P_assign rfl rfl) ?_
 refine At.nil ?_
 refine At.next ?_
 refine At.seq ?_
 refine At.seq ?_
 refine At.region ?_
 refine At.p (some 4) (P_move rfl rfl) ?_
 refine At.p (some 5) (P_eql_ptr rfl rfl rfl Try.underlying23) ?_
 refine At.nil ?_
 refine At.next ?_
 refine At.cond rfl (fun h5 => by simp at h5) (fun h5 => ?_)
 refine At.skip ?_
 refine At.next ?_
 refine At.seq ?_
 refine At.region ?_
 refine At.p (some 6) (P_move rfl rfl) ?_
 refine At.p (some 7) (P_nilCheck rfl rfl) ?_
 refine At.q (some 8) (Q_loadA (k := 0) rfl rfl Try.underlying71 rfl sz71 LN rfl) ?_
 refine At.s (S_alloc (some 3) 3 (zs := [.slice none 0 0, .bool false, iV 0, iV 0, iV 0]) rfl ze71 rfl (fun b3 => ?_))
 refine At.s (S_storeA none (k := 3) (vs := [.slice (some ⟨bs, 0, none⟩) d.n c, .bool d.off, iV d.till, iV (d.torn : Int), iV d.wr]) rfl rfl rfl (by rw [sz71]; exact congrArg some LN) rfl (one_cons rfl (one_cons rfl (one_cons rfl (one_cons rfl (one_cons rfl one_nil))))) NG rfl LN ?_)
 refine At.nil ?_
 refine At.next ?_
 refine At.seq ?_
 refine At.region ?_
 refine At.p (some 9) (P_move rfl rfl) ?_
 refine At.p (some 10) (P_nilCheck rfl rfl) ?_
 refine At.p (some 11) (P_fieldAddr0 (off := 0) rfl Try.underlying71 rfl sz69 rfl rfl) ?_
 refine At.q (some 12) (Q_loadO (k := 0) rfl rfl Try.underlying69 rfl rfl rfl) ?_
 refine At.s (S_callV (some 13) [(1, _)] [13] (vs := [_]) rfl en42 rfl (VN (by simp) rfl View.all V0) (by simp) (c_CloneS (some ⟨bs, 0, none⟩) d.n c bs 0 0 0 (d.S.map u8V) (fun _ => rfl) (by rw [List.length_map]; exact hok.1) (by intro u hu; obtain ⟨z, _, rfl⟩ := List.mem_map.1 hu; rfl) (by have := hok.2.2.2.2.2.2.1; omega)) (by rintro _ _ ⟨A13, b13, c13, g13a, g13b, rfl, rfl⟩; rfl) ?_)
 rintro _ _ ⟨A13, b13, c13, g13a, g13b, rfl, rfl⟩
 refine At.p (some 14) (P_fieldAddr0 (off := 0) rfl Try.underlying71 rfl sz69 rfl rfl) ?_
 refine At.s (S_store none (k := 3) rfl rfl rfl sz69 rfl rfl rfl LN ?_)
 refine At.nil ?_
 refine At.next ?_
 refine At.seq ?_
 refine At.region ?_
 refine At.p (some 2) (P_assign rfl rfl) ?_
 refine At.nil ?_
 refine At.next ?_
 refine At.ret ?_
 have hA13 : A13 = some ⟨b13, 0, none⟩ := g13a (by have := hok.2.2.2.2.2.2.2; omega)
 subst hA13
 refine At.give (.inl rfl) [3, 13] (rows' := [_, _]) (vs := [_]) rfl ⟨rfl, trivial⟩ rfl (by simp) (by simp [DM.rows, DM.row, rowD, rowS]) ⟨b3, b13, c13, g13b, rfl, rfl⟩

theorem c_Copy (d : DM) (hok : d.Ok) (b bs c rest : Nat) (hc : d.n ≤ c) :
  Con Try.prog 19 [ptr b 0] [d.row false b bs c, rowS false bs d.S rest] (fun v rs => ∃ b' bs' c', d.n ≤ c' ∧ v = ptr b' 0 ∧ rs = [d.row true b' bs' c', rowS true bs' d.S ((c' - d.n) * 64)]) := c_Copy0 hok hc

set_option maxHeartbeats 600000 in
theorem c_NewBad {n : Int} (hb : n < 1 ∨ 512 < n) :
  Con Try.prog 9 [iV n] [] (fun v rs => v = .tuple #[.pointer none, iV 1] ∧ rs = []) := by
 refine Con.enter Try.func9 Try.ntmps9 (Nat.le_of_ble_eq_true rfl) rfl fun w => ?_
 refine At.seq ?_
 refine At.region ?_
 refine At.p (some 2) (P_assign rfl rfl) ?_
 refine At.p (some 3) (P_assign rfl rfl) ?_
 refine At.nil ?_
 refine At.next ?_
 refine At.seq ?_
 refine At.seq ?_
 refine At.region ?_
 refine At.p (some 4) (P_move rfl rfl) ?_
 refine At.p (some 5) (P_cmp rfl rfl rfl rfl rfl rfl) ?_
 refine At.p (some 6) (P_move rfl rfl) ?_
 refine At.gsplit (t := 6) (want := false) rfl (fun g1 => ?_) (fun g1 => ?_)
 ·
  have eg1 : ¬ n < 1 := of_decide_eq_false g1
  refine At.gy (t := 6) rfl g1 rfl rfl ?_
  refine At.p (some 7) (P_move rfl rfl) ?_
  refine At.gy (t := 6) rfl g1 rfl rfl ?_
  refine At.p (some 8) (P_cmp rfl rfl rfl rfl rfl rfl) ?_
  refine At.p (some 9) (P_pick_f rfl rfl g1 rfl) ?_
  refine At.nil ?_
  refine At.next ?_
  refine At.cond rfl (fun h9 => ?_) (fun h9 => by first | (simp at h9; done) | (simp at h9; omega))
  have e9 : n > 512 := of_decide_eq_true h9
  refine At.seq ?_
  refine At.region ?_
  refine At.p (some 2) (P_assign rfl rfl) ?_
  refine At.p (some 3) (P_assign rfl rfl) ?_
  refine At.nil ?_
  refine At.next ?_
  refine At.ret ?_
  refine At.thn_r ?_
  refine At.give (.inl rfl) [] (rows' := []) (vs := [_, _]) rfl ⟨rfl, rfl, trivial⟩ rfl (by simp) (by simp) ⟨rfl, rfl⟩
 ·
  have eg1 : n < 1 := of_decide_eq_true g1
  refine At.gn (some 7) (t := 6) rfl g1 rfl rfl ?_
  refine At.gn (some 8) (t := 6) rfl g1 rfl rfl ?_
  refine At.p (some 9) (P_pick_t rfl rfl g1 rfl) ?_
  refine At.nil ?_
  refine At.next ?_
  refine At.cond rfl (fun h9 => ?_) (fun h9 => by first | (simp at h9; done) | (simp at h9; omega))
  refine At.seq ?_
  refine At.region ?_
  refine At.p (some 2) (P_assign rfl rfl) ?_
  refine At.p (some 3) (P_assign rfl rfl) ?_
  refine At.nil ?_
  refine At.next ?_
  refine At.ret ?_
  refine At.thn_r ?_
  refine At.give (.inl rfl) [] (rows' := []) (vs := [_, _]) rfl ⟨rfl, rfl, trivial⟩ rfl (by simp) (by simp) ⟨rfl, rfl⟩

set_option maxHeartbeats 600000 in
theorem r_Read {bw bS cw torn m : Nat} {off : Bool} {till wr : Int} {es : List BG} {Aw : Option Addr} {i : Int} (hAw : 0 < cw → Aw = some ⟨bS, 0, none⟩) (hcw : m ≤ cw) (hm : es.length = m) (hln : m ≤ 512) (hes : ∀ e ∈ es, e.ok) :
  Con Try.prog 21 [ptr bw 0, iV i] [⟨false, bw, 0, 46, [.slice Aw m cw, .bool off, iV till, iV (torn : Int), iV wr], 0⟩, ⟨false, bS, 0, 27, (es).map BG.v, cw - m⟩] (fun v rs => v = .tuple #[(rdX off es i).v, iV (mayE off m i)] ∧ rs = []) := by
 refine Con.enter Try.func21 Try.ntmps21 (Nat.le_of_ble_eq_true rfl) rfl fun w => ?_
 refine At.seq ?_
 refine At.region ?_
 refine At.p (some 4) (P_assign rfl rfl) ?_
 refine At.p (some 5) (P_assign rfl rfl) ?_
 refine At.nil ?_
 refine At.next ?_
 refine At.seq ?_
 refine At.seq ?_
 refine At.region ?_
 refine At.p (some 6) (P_move rfl rfl) ?_
 refine At.p (some 7) (P_nilCheck rfl rfl) ?_
 refine At.p (some 8) (P_fieldAddr0 (off := 1) rfl Try.underlying46 rfl sz4 rfl rfl) ?_
 refine At.q (some 9) (Q_loadO (k := 0) rfl rfl Try.underlying4 rfl rfl rfl) ?_
 refine At.nil ?_
 refine At.next ?_
 refine At.cond rfl (fun h9 => ?_) (fun h9 => ?_)
 · -- cond 9 t
  refine At.seq ?_
  refine At.region ?_
  refine At.p (some 4) (P_assign rfl rfl) ?_
  refine At.p (some 5) (P_assign rfl rfl) ?_
  refine At.nil ?_
  refine At.next ?_
  refine At.ret ?_
  refine At.thn_r ?_
  obtain rfl : off = true := h9
  have z1 : rdX true es i = default := rdX_off
  skip
  have z3 : mayE true m i = 6 := mayE_off
  refine At.give (.inl rfl) [] (rows' := []) (vs := [_, _]) rfl ⟨rfl, rfl, trivial⟩ rfl (by simp) (by simp) ⟨by rw [z1, z3]; rfl, rfl⟩
 · -- cond 9 f
  refine At.skip ?_
  refine At.next ?_
  refine At.seq ?_
  refine At.seq ?_
  refine At.region ?_
  refine At.p (some 10) (P_move rfl rfl) ?_
  refine At.p (some 11) (P_cmp rfl rfl rfl rfl rfl rfl) ?_
  refine At.p (some 12) (P_move rfl rfl) ?_
  refine At.gsplit (t := 12) (want := false) rfl (fun g1 => ?_) (fun g1 => ?_)
  ·
   have eg1 : ¬ i < 0 := of_decide_eq_false g1
   refine At.gy (t := 12) rfl g1 rfl rfl ?_
   refine At.p (some 13) (P_move rfl rfl) ?_
   refine At.gy (t := 12) rfl g1 rfl rfl ?_
   refine At.p (some 14) (P_move rfl rfl) ?_
   refine At.gy (t := 12) rfl g1 rfl rfl ?_
   refine At.p (some 15) (P_nilCheck rfl rfl) ?_
   refine At.gy (t := 12) rfl g1 rfl rfl ?_
   refine At.p (some 16) (P_fieldAddr0 (off := 0) rfl Try.underlying46 rfl sz44 rfl rfl) ?_
   refine At.gy (t := 12) rfl g1 rfl rfl ?_
   refine At.q (some 17) (Q_loadO (k := 0) rfl rfl Try.underlying44 rfl rfl rfl) ?_
   refine At.gy (t := 12) rfl g1 rfl rfl ?_
   refine At.p (some 18) (P_len_sl rfl rfl ⟨_, Try.underlying44⟩ rfl) ?_
   refine At.gy (t := 12) rfl g1 rfl rfl ?_
   refine At.p (some 19) (P_cmp rfl rfl rfl rfl rfl rfl) ?_
   refine At.p (some 20) (P_pick_f rfl rfl g1 rfl) ?_
   refine At.nil ?_
   refine At.next ?_
   refine At.cond rfl (fun h20 => ?_) (fun h20 => ?_)
   · -- cond 20 t
    have e20 : i ≥ (m : Int) := of_decide_eq_true h20
    refine At.seq ?_
    refine At.region ?_
    refine At.p (some 4) (P_assign rfl rfl) ?_
    refine At.p (some 5) (P_assign rfl rfl) ?_
    refine At.nil ?_
    refine At.next ?_
    refine At.ret ?_
    refine At.thn_r ?_
    obtain rfl : off = false := h9
    have z2 : ¬ (0 ≤ i ∧ i < es.length) := by omega
    have z1 : rdX false es i = default := rdX_out z2
    have z3 : mayE false m i = 1 := mayE_out (by omega)
    refine At.give (.inl rfl) [] (rows' := []) (vs := [_, _]) rfl ⟨rfl, rfl, trivial⟩ rfl (by simp) (by simp) ⟨by rw [z1, z3]; rfl, rfl⟩
   · -- cond 20 f
    have e20 : ¬ i ≥ (m : Int) := of_decide_eq_false h20
    refine At.skip ?_
    refine At.next ?_
    refine At.seq ?_
    refine At.region ?_
    refine At.p (some 21) (P_move rfl rfl) ?_
    refine At.p (some 22) (P_nilCheck rfl rfl) ?_
    refine At.p (some 23) (P_fieldAddr0 (off := 0) rfl Try.underlying46 rfl sz44 rfl rfl) ?_
    refine At.q (some 24) (Q_loadO (k := 0) rfl rfl Try.underlying44 rfl rfl rfl) ?_
    refine At.p (some 25) (P_move rfl rfl) ?_
    refine At.p (some 26) (P_indexAddr_slz (b := bS) (j := (i).toNat) rfl Try.underlying44 sz27 rfl ((fun h => hAw (by omega)) OG) rfl RO OG) ?_
    have hok27 : BG.ok (es.getD ((i).toNat) default) := hes _ (getDG_mem OG)
    refine At.q (some 27) (Q_loadM (k := 1) (f := BG.v) (l := es) ((default : BG)) rfl rfl Try.underlying27 rfl rfl OG) ?_
    refine At.p (some 4) (P_assign rfl rfl) ?_
    refine At.p (some 5) (P_assign rfl rfl) ?_
    refine At.nil ?_
    refine At.next ?_
    refine At.ret ?_
    obtain rfl : off = false := h9
    have z2 : 0 ≤ i ∧ i < es.length := by omega
    have z1 : rdX false es i = es.getD i.toNat default := rdX_in z2
    have z3 : mayE false m i = 0 := mayE_in (by omega)
    refine At.give (.inl rfl) [] (rows' := []) (vs := [_, _]) rfl ⟨rfl, rfl, trivial⟩ rfl (by simp) (by simp) ⟨by rw [z1, z3]; rfl, rfl⟩
  ·
   have eg1 : i < 0 := of_decide_eq_true g1
   refine At.gn (some 13) (t := 12) rfl g1 rfl rfl ?_
   refine At.gn (some 14) (t := 12) rfl g1 rfl rfl ?_
   refine At.gn (some 15) (t := 12) rfl g1 rfl rfl ?_
   refine At.gn (some 16) (t := 12) rfl g1 rfl rfl ?_
   refine At.gn (some 17) (t := 12) rfl g1 rfl rfl ?_
   refine At.gn (some 18) (t := 12) rfl g1 rfl rfl ?_
   refine At.gn (some 19) (t := 12) rfl g1 rfl rfl ?_
   refine At.p (some 20) (P_pick_t rfl rfl g1 rfl) ?_
   refine At.nil ?_
   refine At.next ?_
   refine At.cond rfl (fun _ => ?_) (fun h => absurd (h.symm.trans rfl) (by decide))
   refine At.seq ?_
   refine At.region ?_
   refine At.p (some 4) (P_assign rfl rfl) ?_
   refine At.p (some 5) (P_assign rfl rfl) ?_
   refine At.nil ?_
   refine At.next ?_
   refine At.ret ?_
   refine At.thn_r ?_
   obtain rfl : off = false := h9
   have z2 : ¬ (0 ≤ i ∧ i < es.length) := by omega
   have z1 : rdX false es i = default := rdX_out z2
   have z3 : mayE false m i = 1 := mayE_out (by omega)
   refine At.give (.inl rfl) [] (rows' := []) (vs := [_, _]) rfl ⟨rfl, rfl, trivial⟩ rfl (by simp) (by simp) ⟨by rw [z1, z3]; rfl, rfl⟩

set_option maxHeartbeats 600000 in
theorem r_Fail {bw bS cw torn m : Nat} {off : Bool} {till wr : Int} {es : List BG} {Aw : Option Addr} {i : Int} {j : Int} (hAw : 0 < cw → Aw = some ⟨bS, 0, none⟩) (hcw : m ≤ cw) (hm : es.length = m) :
  Con Try.prog 23 [ptr bw 0, iV i, iV j] [⟨true, bw, 0, 46, [.slice Aw m cw, .bool off, iV till, iV (torn : Int), iV wr], 0⟩, ⟨true, bS, 0, 27, (es).map BG.v, cw - m⟩] (fun v rs => v = .tuple #[] ∧ rs = [⟨true, bw, 0, 46, [.slice Aw m cw, .bool off, iV (max i (-1)), iV ((min (max j 0) 64).toNat : Nat), iV wr], 0⟩, ⟨true, bS, 0, 27, es.map BG.v, cw - m⟩]) := by
 refine Con.enter Try.func23 Try.ntmps23 (Nat.le_of_ble_eq_true rfl) rfl fun w => ?_
 refine At.region ?_
 refine At.p (some 6) (P_move rfl rfl) ?_
 refine At.p (some 7) (P_move rfl rfl) ?_
 refine At.p (some 8) (P_move rfl rfl) ?_
 refine At.p (some 9) (P_max2 rfl rfl rfl rfl) ?_
 refine At.p (some 10) (P_move rfl rfl) ?_
 refine At.p (some 11) (P_max2 rfl rfl rfl rfl) ?_
 refine At.p (some 12) (P_min2 rfl rfl rfl rfl) ?_
 refine At.p (some 13) (P_nilCheck rfl rfl) ?_
 refine At.p (some 14) (P_fieldAddr0 (off := 2) rfl Try.underlying46 rfl sz3 rfl rfl) ?_
 refine At.s (S_store none (k := 0) rfl rfl rfl sz3 rfl rfl rfl LN ?_)
 refine At.p (some 15) (P_nilCheck rfl rfl) ?_
 refine At.p (some 16) (P_fieldAddr0 (off := 3) rfl Try.underlying46 rfl sz3 rfl rfl) ?_
 refine At.s (S_store none (k := 0) rfl rfl rfl sz3 rfl rfl rfl LN ?_)
 refine At.nil ?_
 have z1 : (((min (max j 0) 64).toNat : Nat) : Int) = min (max j 0) 64 := Int.toNat_of_nonneg (by omega)
 refine At.give (.inr rfl) [0, 1] (rows' := [_, _]) (vs := []) rfl trivial rfl (by simp) (by simp) ⟨rfl, by rw [z1]; rfl⟩

set_option maxHeartbeats 600000 in
theorem r_Up {bw bS cw torn m : Nat} {off : Bool} {till wr : Int} {es : List BG} {Aw : Option Addr} (hAw : 0 < cw → Aw = some ⟨bS, 0, none⟩) (hcw : m ≤ cw) (hm : es.length = m) :
  Con Try.prog 24 [ptr bw 0] [⟨true, bw, 0, 46, [.slice Aw m cw, .bool off, iV till, iV (torn : Int), iV wr], 0⟩, ⟨true, bS, 0, 27, (es).map BG.v, cw - m⟩] (fun v rs => v = .tuple #[] ∧ rs = [⟨true, bw, 0, 46, [.slice Aw m cw, .bool false, iV (-1), iV (torn : Int), iV wr], 0⟩, ⟨true, bS, 0, 27, es.map BG.v, cw - m⟩]) := by
 refine Con.enter Try.func24 Try.ntmps24 (Nat.le_of_ble_eq_true rfl) rfl fun w => ?_
 refine At.region ?_
 refine At.p (some 2) (P_move rfl rfl) ?_
 refine At.p (some 3) (P_move rfl rfl) ?_
 refine At.p (some 4) (P_nilCheck rfl rfl) ?_
 refine At.p (some 5) (P_fieldAddr0 (off := 1) rfl Try.underlying46 rfl sz4 rfl rfl) ?_
 refine At.s (S_store none (k := 0) rfl rfl rfl sz4 rfl rfl rfl LN ?_)
 refine At.p (some 6) (P_nilCheck rfl rfl) ?_
 refine At.p (some 7) (P_fieldAddr0 (off := 2) rfl Try.underlying46 rfl sz3 rfl rfl) ?_
 refine At.s (S_store none (k := 0) rfl rfl rfl sz3 rfl rfl rfl LN ?_)
 refine At.nil ?_
 refine At.give (.inr rfl) [0, 1] (rows' := [_, _]) (vs := []) rfl trivial rfl (by simp) (by simp) ⟨rfl, rfl⟩

set_option maxHeartbeats 600000 in
theorem r_WriteN {bw bS cw torn m : Nat} {off : Bool} {till wr : Int} {es : List BG} {Aw : Option Addr} {i : Int} {A : Option Addr} {nl c : Nat} (hAw : 0 < cw → Aw = some ⟨bS, 0, none⟩) (hcw : m ≤ cw) (hm : es.length = m) (hln : m ≤ 512) (hno : mayE off m i ≠ 0 ∨ nl ≠ 64) :
  Con Try.prog 22 [ptr bw 0, iV i, .slice A nl c] [⟨true, bw, 0, 46, [.slice Aw m cw, .bool off, iV till, iV (torn : Int), iV wr], 0⟩, ⟨true, bS, 0, 27, (es).map BG.v, cw - m⟩] (fun v rs => v = iV (if mayE off m i ≠ 0 then mayE off m i else 1) ∧ rs = [⟨true, bw, 0, 46, [.slice Aw m cw, .bool off, iV till, iV (torn : Int), iV wr], 0⟩, ⟨true, bS, 0, 27, es.map BG.v, cw - m⟩]) := by
 refine Con.enter Try.func22 Try.ntmps22 (Nat.le_of_ble_eq_true rfl) rfl fun w => ?_
 refine At.seq ?_
 refine At.region ?_
 refine At.p (some 6) (P_assign rfl rfl) ?_
 refine At.nil ?_
 refine At.next ?_
 refine At.seq ?_
 refine At.seq ?_
 refine At.region ?_
 refine At.p (some 9) (P_move rfl rfl) ?_
 refine At.p (some 10) (P_nilCheck rfl rfl) ?_
 refine At.p (some 11) (P_fieldAddr0 (off := 1) rfl Try.underlying46 rfl sz4 rfl rfl) ?_
 refine At.q (some 12) (Q_loadO (k := 0) rfl rfl Try.underlying4 rfl rfl rfl) ?_
 refine At.nil ?_
 refine At.next ?_
 refine At.cond rfl (fun h12 => ?_) (fun h12 => ?_)
 · -- cond 12 t
  refine At.seq ?_
  refine At.region ?_
  refine At.p (some 6) (P_assign rfl rfl) ?_
  refine At.nil ?_
  refine At.next ?_
  refine At.ret ?_
  refine At.thn_r ?_
  have z1 : (if mayE off m i ≠ 0 then mayE off m i else 1) = 6 := by obtain rfl : off = true := h12; rfl
  refine At.give (.inl rfl) [0, 1] (rows' := [_, _]) (vs := [_]) rfl ⟨rfl, trivial⟩ rfl (by simp) (by simp) ⟨by rw [z1]; rfl, rfl⟩
 · -- cond 12 f
  refine At.skip ?_
  refine At.next ?_
  refine At.seq ?_
  refine At.seq ?_
  refine At.region ?_
  refine At.p (some 13) (P_move rfl rfl) ?_
  refine At.p (some 14) (P_cmp rfl rfl rfl rfl rfl rfl) ?_
  refine At.p (some 15) (P_move rfl rfl) ?_
  refine At.gsplit (t := 15) (want := false) rfl (fun g1 => ?_) (fun g1 => ?_)
  ·
   have eg1 : ¬ i < 0 := of_decide_eq_false g1
   refine At.gy (t := 15) rfl g1 rfl rfl ?_
   refine At.p (some 16) (P_move rfl rfl) ?_
   refine At.gy (t := 15) rfl g1 rfl rfl ?_
   refine At.p (some 17) (P_move rfl rfl) ?_
   refine At.gy (t := 15) rfl g1 rfl rfl ?_
   refine At.p (some 18) (P_nilCheck rfl rfl) ?_
   refine At.gy (t := 15) rfl g1 rfl rfl ?_
   refine At.p (some 19) (P_fieldAddr0 (off := 0) rfl Try.underlying46 rfl sz44 rfl rfl) ?_
   refine At.gy (t := 15) rfl g1 rfl rfl ?_
   refine At.q (some 20) (Q_loadO (k := 0) rfl rfl Try.underlying44 rfl rfl rfl) ?_
   refine At.gy (t := 15) rfl g1 rfl rfl ?_
   refine At.p (some 21) (P_len_sl rfl rfl ⟨_, Try.underlying44⟩ rfl) ?_
   refine At.gy (t := 15) rfl g1 rfl rfl ?_
   refine At.p (some 22) (P_cmp rfl rfl rfl rfl rfl rfl) ?_
   refine At.p (some 23) (P_pick_f rfl rfl g1 rfl) ?_
   refine At.p (some 24) (P_move rfl rfl) ?_
   refine At.gsplit (t := 24) (want := false) rfl (fun g2 => ?_) (fun g2 => ?_)
   ·
    have eg2 : ¬ i ≥ (m : Int) := of_decide_eq_false g2
    refine At.gy (t := 24) rfl g2 rfl rfl ?_
    refine At.p (some 25) (P_move rfl rfl) ?_
    refine At.gy (t := 24) rfl g2 rfl rfl ?_
    refine At.p (some 26) (P_len_sl rfl rfl ⟨_, Try.underlying27⟩ rfl) ?_
    refine At.gy (t := 24) rfl g2 rfl rfl ?_
    refine At.p (some 27) (P_cmp rfl rfl rfl rfl rfl rfl) ?_
    refine At.p (some 28) (P_pick_f rfl rfl g2 rfl) ?_
    refine At.nil ?_
    refine At.next ?_
    refine At.cond rfl (fun h28 => ?_) (fun h28 => by exfalso; have e9 := bne_eq_false_iff_eq.1 h28; obtain rfl : off = false := h12; rcases hno with h | h <;> first | omega | exact h (mayE_in (by omega)))
    have e28 : (nl : Int) ≠ 64 := bne_iff_ne.1 h28
    refine At.seq ?_
    refine At.region ?_
    refine At.p (some 6) (P_assign rfl rfl) ?_
    refine At.nil ?_
    refine At.next ?_
    refine At.ret ?_
    refine At.thn_r ?_
    have z1 : (if mayE off m i ≠ 0 then mayE off m i else 1) = 1 := by obtain rfl : off = false := h12; first | (rw [mayE_out (by omega)]; rfl) | (split <;> rename_i hz <;> first | rfl | (unfold mayE at hz ⊢; split at hz <;> simp_all))
    refine At.give (.inl rfl) [0, 1] (rows' := [_, _]) (vs := [_]) rfl ⟨rfl, trivial⟩ rfl (by simp) (by simp) ⟨by rw [z1]; rfl, rfl⟩
   ·
    have eg2 : i ≥ (m : Int) := of_decide_eq_true g2
    refine At.gn (some 25) (t := 24) rfl g2 rfl rfl ?_
    refine At.gn (some 26) (t := 24) rfl g2 rfl rfl ?_
    refine At.gn (some 27) (t := 24) rfl g2 rfl rfl ?_
    refine At.p (some 28) (P_pick_t rfl rfl g2 rfl) ?_
    refine At.nil ?_
    refine At.next ?_
    refine At.cond rfl (fun _ => ?_) (fun h => absurd (h.symm.trans rfl) (by decide))
    refine At.seq ?_
    refine At.region ?_
    refine At.p (some 6) (P_assign rfl rfl) ?_
    refine At.nil ?_
    refine At.next ?_
    refine At.ret ?_
    refine At.thn_r ?_
    have z1 : (if mayE off m i ≠ 0 then mayE off m i else 1) = 1 := by obtain rfl : off = false := h12; first | (rw [mayE_out (by omega)]; rfl) | (split <;> rename_i hz <;> first | rfl | (unfold mayE at hz ⊢; split at hz <;> simp_all))
    refine At.give (.inl rfl) [0, 1] (rows' := [_, _]) (vs := [_]) rfl ⟨rfl, trivial⟩ rfl (by simp) (by simp) ⟨by rw [z1]; rfl, rfl⟩
  ·
   have eg1 : i < 0 := of_decide_eq_true g1
   refine At.gn (some 16) (t := 15) rfl g1 rfl rfl ?_
   refine At.gn (some 17) (t := 15) rfl g1 rfl rfl ?_
   refine At.gn (some 18) (t := 15) rfl g1 rfl rfl ?_
   refine At.gn (some 19) (t := 15) rfl g1 rfl rfl ?_
   refine At.gn (some 20) (t := 15) rfl g1 rfl rfl ?_
   refine At.gn (some 21) (t := 15) rfl g1 rfl rfl ?_
   refine At.gn (some 22) (t := 15) rfl g1 rfl rfl ?_
   refine At.p (some 23) (P_pick_t rfl rfl g1 rfl) ?_
   refine At.p (some 24) (P_move rfl rfl) ?_
   refine At.gn (some 25) (t := 24) rfl rfl rfl rfl ?_
   refine At.gn (some 26) (t := 24) rfl rfl rfl rfl ?_
   refine At.gn (some 27) (t := 24) rfl rfl rfl rfl ?_
   refine At.p (some 28) (P_pick_t rfl rfl rfl rfl) ?_
   refine At.nil ?_
   refine At.next ?_
   refine At.cond rfl (fun _ => ?_) (fun h => absurd (h.symm.trans rfl) (by decide))
   refine At.seq ?_
   refine At.region ?_
   refine At.p (some 6) (P_assign rfl rfl) ?_
   refine At.nil ?_
   refine At.next ?_
   refine At.ret ?_
   refine At.thn_r ?_
   have z1 : (if mayE off m i ≠ 0 then mayE off m i else 1) = 1 := by obtain rfl : off = false := h12; first | (rw [mayE_out (by omega)]; rfl) | (split <;> rename_i hz <;> first | rfl | (unfold mayE at hz ⊢; split at hz <;> simp_all))
   refine At.give (.inl rfl) [0, 1] (rows' := [_, _]) (vs := [_]) rfl ⟨rfl, trivial⟩ rfl (by simp) (by simp) ⟨by rw [z1]; rfl, rfl⟩

set_option maxHeartbeats 600000 in
theorem r_WriteY {bw bS cw torn m : Nat} {off : Bool} {till wr : Int} {es : List BG} {Aw : Option Addr} {i : Int} {k : Nat} {l : List (BitVec 8)} {A : Option Addr} {nl c b q : Nat} (hAw : 0 < cw → Aw = some ⟨bS, 0, none⟩) (hcw : m ≤ cw) (hm : es.length = m) (hik : i = (k : Int)) (hnl : l.length = nl) (hA : 0 < nl → A = some ⟨b, q, none⟩) (hnc : nl ≤ c) (hln : m ≤ 512) (hoff : off = false) (hk : k < m) (h64 : nl = 64) (hes : ∀ e ∈ es, e.ok) (hxo : (es.getD k default).ok) (hxl : (es.getD k default).l.length = 64) (ht : torn ≤ 64) (htl : -1 ≤ till) (hwr : wr ≤ 1000000) (hwr0 : 0 ≤ wr) (htu : till ≤ 9223372036854775807) :
  Con Try.prog 22 [ptr bw 0, iV i, .slice A nl c] [⟨true, bw, 0, 46, [.slice Aw m cw, .bool off, iV till, iV (torn : Int), iV wr], 0⟩, ⟨true, bS, 0, 27, (es).map BG.v, cw - m⟩, pRow ((es.getD k default).b) ((es.getD k default).q) ((es.getD k default).l), pRow b q l] (fun v rs => ∃ y : BG, y.ok ∧ y.l = wrL till torn l (es.getD k default).l ∧ v = iV (wrE till) ∧ rs = [⟨true, bw, 0, 46, [.slice Aw m cw, .bool (decide (till = 0)), iV (max (till - 1) (-1)), iV (torn : Int), iV (wr + 1)], 0⟩, ⟨true, bS, 0, 27, (es.set k y).map BG.v, cw - m⟩, y.row 5]) := by
 refine Con.enter Try.func22 Try.ntmps22 (Nat.le_of_ble_eq_true rfl) rfl fun w => ?_
 refine At.seq ?_
 refine At.region ?_
 refine At.p (some 6) (P_assign rfl rfl) ?_
 refine At.nil ?_
 refine At.next ?_
 refine At.seq ?_
 refine At.seq ?_
 refine At.region ?_
 refine At.p (some 9) (P_move rfl rfl) ?_
 refine At.p (some 10) (P_nilCheck rfl rfl) ?_
 refine At.p (some 11) (P_fieldAddr0 (off := 1) rfl Try.underlying46 rfl sz4 rfl rfl) ?_
 refine At.q (some 12) (Q_loadO (k := 0) rfl rfl Try.underlying4 rfl rfl rfl) ?_
 refine At.nil ?_
 refine At.next ?_
 refine At.cond rfl (fun h12 => by rw [hoff] at h12; cases h12) (fun h12 => ?_)
 refine At.skip ?_
 refine At.next ?_
 refine At.seq ?_
 refine At.seq ?_
 refine At.region ?_
 refine At.p (some 13) (P_move rfl rfl) ?_
 refine At.p (some 14) (P_cmp rfl rfl rfl rfl rfl rfl) ?_
 refine At.p (some 15) (P_move rfl rfl) ?_
 refine At.gy (t := 15) rfl (decide_eq_false (by omega)) rfl rfl ?_
 refine At.p (some 16) (P_move rfl rfl) ?_
 refine At.gy (t := 15) rfl (decide_eq_false (by omega)) rfl rfl ?_
 refine At.p (some 17) (P_move rfl rfl) ?_
 refine At.gy (t := 15) rfl (decide_eq_false (by omega)) rfl rfl ?_
 refine At.p (some 18) (P_nilCheck rfl rfl) ?_
 refine At.gy (t := 15) rfl (decide_eq_false (by omega)) rfl rfl ?_
 refine At.p (some 19) (P_fieldAddr0 (off := 0) rfl Try.underlying46 rfl sz44 rfl rfl) ?_
 refine At.gy (t := 15) rfl (decide_eq_false (by omega)) rfl rfl ?_
 refine At.q (some 20) (Q_loadO (k := 0) rfl rfl Try.underlying44 rfl rfl rfl) ?_
 refine At.gy (t := 15) rfl (decide_eq_false (by omega)) rfl rfl ?_
 refine At.p (some 21) (P_len_sl rfl rfl ⟨_, Try.underlying44⟩ rfl) ?_
 refine At.gy (t := 15) rfl (decide_eq_false (by omega)) rfl rfl ?_
 refine At.p (some 22) (P_cmp rfl rfl rfl rfl rfl rfl) ?_
 refine At.p (some 23) (P_pick_f rfl rfl (decide_eq_false (by omega)) rfl) ?_
 refine At.p (some 24) (P_move rfl rfl) ?_
 refine At.gy (t := 24) rfl (decide_eq_false (by omega)) rfl rfl ?_
 refine At.p (some 25) (P_move rfl rfl) ?_
 refine At.gy (t := 24) rfl (decide_eq_false (by omega)) rfl rfl ?_
 refine At.p (some 26) (P_len_sl rfl rfl ⟨_, Try.underlying27⟩ rfl) ?_
 refine At.gy (t := 24) rfl (decide_eq_false (by omega)) rfl rfl ?_
 refine At.p (some 27) (P_cmp rfl rfl rfl rfl rfl rfl) ?_
 refine At.p (some 28) (P_pick_f rfl rfl (decide_eq_false (by omega)) rfl) ?_
 refine At.nil ?_
 refine At.next ?_
 refine At.cond rfl (fun h28 => by exfalso; have e9 : (nl : Int) ≠ 64 := bne_iff_ne.1 h28; first | omega | (simp at e9; done) | (simp at e9; omega)) (fun h28 => ?_)
 have e28 : (nl : Int) = 64 := bne_eq_false_iff_eq.1 h28
 refine At.skip ?_
 refine At.next ?_
 refine At.seq ?_
 refine At.region ?_
 refine At.p (some 29) (P_move rfl rfl) ?_
 refine At.p (some 30) (P_nilCheck rfl rfl) ?_
 refine At.p (some 31) (P_fieldAddr0 (off := 4) rfl Try.underlying46 rfl sz3 rfl rfl) ?_
 refine At.q (some 32) (Q_loadO (k := 0) rfl rfl Try.underlying3 rfl rfl rfl) ?_
 refine At.p (some 33) (P_add_i rfl rfl rfl (by omega)) ?_
 refine At.p (some 34) (P_nilCheck rfl rfl) ?_
 refine At.p (some 35) (P_fieldAddr0 (off := 4) rfl Try.underlying46 rfl sz3 rfl rfl) ?_
 refine At.s (S_store none (k := 0) rfl rfl rfl sz3 rfl rfl rfl LN ?_)
 refine At.nil ?_
 refine At.next ?_
 refine At.seq ?_
 refine At.region ?_
 refine At.p (some 7) (P_assign rfl rfl) ?_
 refine At.nil ?_
 refine At.next ?_
 refine At.seq ?_
 refine At.seq ?_
 refine At.region ?_
 refine At.p (some 36) (P_move rfl rfl) ?_
 refine At.p (some 37) (P_nilCheck rfl rfl) ?_
 refine At.p (some 38) (P_fieldAddr0 (off := 2) rfl Try.underlying46 rfl sz3 rfl rfl) ?_
 refine At.q (some 39) (Q_loadO (k := 0) rfl rfl Try.underlying3 rfl rfl rfl) ?_
 refine At.p (some 40) (P_cmp rfl rfl rfl rfl rfl rfl) ?_
 refine At.nil ?_
 refine At.next ?_
 refine At.cond rfl (fun h40 => ?_) (fun h40 => ?_)
 · -- cond 40 t
  have e40 : till = 0 := eq_of_beq h40
  refine At.region ?_
  refine At.p (some 41) (P_move rfl rfl) ?_
  refine At.p (some 42) (P_move rfl rfl) ?_
  refine At.p (some 43) (P_nilCheck rfl rfl) ?_
  refine At.p (some 44) (P_fieldAddr0 (off := 3) rfl Try.underlying46 rfl sz3 rfl rfl) ?_
  refine At.q (some 45) (Q_loadO (k := 0) rfl rfl Try.underlying3 rfl rfl rfl) ?_
  refine At.p (some 7) (P_assign rfl rfl) ?_
  refine At.p (some 46) (P_nilCheck rfl rfl) ?_
  refine At.p (some 47) (P_fieldAddr0 (off := 1) rfl Try.underlying46 rfl sz4 rfl rfl) ?_
  refine At.s (S_store none (k := 0) rfl rfl rfl sz4 rfl rfl rfl LN ?_)
  refine At.nil ?_
  refine At.next ?_
  refine At.seq ?_
  refine At.seq ?_
  refine At.region ?_
  refine At.p (some 48) (P_move rfl rfl) ?_
  refine At.p (some 49) (P_nilCheck rfl rfl) ?_
  refine At.p (some 50) (P_fieldAddr0 (off := 2) rfl Try.underlying46 rfl sz3 rfl rfl) ?_
  refine At.q (some 51) (Q_loadO (k := 0) rfl rfl Try.underlying3 rfl rfl rfl) ?_
  refine At.p (some 52) (P_cmp rfl rfl rfl rfl rfl rfl) ?_
  refine At.nil ?_
  refine At.next ?_
  refine At.cond rfl (fun h52 => ?_) (fun h52 => ?_)
  · -- cond 52 t
   have e52 : till ≥ 0 := of_decide_eq_true h52
   refine At.region ?_
   refine At.p (some 53) (P_move rfl rfl) ?_
   refine At.p (some 54) (P_nilCheck rfl rfl) ?_
   refine At.p (some 55) (P_fieldAddr0 (off := 2) rfl Try.underlying46 rfl sz3 rfl rfl) ?_
   refine At.q (some 56) (Q_loadO (k := 0) rfl rfl Try.underlying3 rfl rfl rfl) ?_
   refine At.p (some 57) (P_sub_i rfl rfl rfl (by omega)) ?_
   refine At.p (some 58) (P_nilCheck rfl rfl) ?_
   refine At.p (some 59) (P_fieldAddr0 (off := 2) rfl Try.underlying46 rfl sz3 rfl rfl) ?_
   refine At.s (S_store none (k := 0) rfl rfl rfl sz3 rfl rfl rfl LN ?_)
   refine At.nil ?_
   refine At.next ?_
   refine At.seq ?_
   refine At.region ?_
   refine At.s (S_buildSlice0 (some 60) 60 rfl Try.underlying27 sz5 (fun b60 => ?_))
   refine At.p (some 61) (P_move rfl rfl) ?_
   refine At.p (some 62) (P_move rfl rfl) ?_
   refine At.p (some 63) (P_slice_sl (l := 0) (h := torn) (m := c) rfl Try.underlying27 sz5 rfl rfl ⟨_, _, rfl, by omega⟩ rfl DO DO DO) ?_
   refine At.s (S_appendM (some 64) 60 ((l.take (torn - 0))) (f := u8V) (l := []) (L := (l.take (torn - 0))) (m := (torn - 0)) rfl Try.underlying27 Try.underlying27 (.inr ⟨_, rfl⟩) sz5 by5 ze5 rfl rfl (fun h => ⟨rfl, rfl⟩) LN OG (Src.part (k := 3) (j := 0) (l := l) rfl (fun h => cut_zero (hA (by omega))) (fun _ => ⟨rfl, rfl, (Nat.add_zero _)⟩) OG) (fun _ => rfl) OG OG rfl LN ?_)
   intro A64 b64 c64 g64a g64b
   refine At.p (some 8) (P_assign rfl rfl) ?_
   refine At.nil ?_
   refine At.next ?_
   refine At.seq ?_
   have hxc := BG.le hxo
   have hdz := wr_f (l := l) (o := (es.getD k default).l) (by omega) hxl
   have hdy := wr_t (n := torn) (l := l) (o := (es.getD k default).l)
   have hok77 : BG.ok (es.getD k default) := hes _ (getDG_mem OG)
   refine At.bBruteG [15, 17] (fun fr H => ∃ (A80 : Option Addr) (b80 c80 : Nat), fr = frOf [(0, ptr bw 0), (6, iV 0)] ∧ H = hOf [(0, ⟨true, bw, 0, 46, [.slice Aw m cw, .bool true, iV (till - 1), iV (torn : Int), iV (wr + 1)], 0⟩), (1, ⟨true, bS, 0, 27, ((es.set k (bG A80 b80 c80 ((l.take (torn - 0)) ++ ((((es.getD k default).l).drop torn).take (((es.getD k default).l.length) - torn)))))).map BG.v, cw - m⟩), (2, pRow ((es.getD k default).b) ((es.getD k default).q) ((es.getD k default).l)), (60, ⟨true, b80, 0, 5, (((l.take (torn - 0)) ++ ((((es.getD k default).l).drop torn).take (((es.getD k default).l.length) - torn)))).map u8V, c80 - (((l.take (torn - 0)) ++ ((((es.getD k default).l).drop torn).take (((es.getD k default).l.length) - torn)))).length⟩)] ∧ (0 < c80 → A80 = some ⟨b80, 0, none⟩) ∧ (((l.take (torn - 0)) ++ ((((es.getD k default).l).drop torn).take (((es.getD k default).l.length) - torn))).length ≤ c80) ∧ True) (by kernel_rfl) ?_ ?_
   ·
    intro Kb hKb G hGi hGo
    have hG12_0 (A80 : Option Addr) (b80 c80 : Nat) (g80a : 0 < c80 → A80 = some ⟨b80, 0, none⟩) (g80b : ((l.take (torn - 0)) ++ ((((es.getD k default).l).drop torn).take (((es.getD k default).l.length) - torn))).length ≤ c80) : G 0 #[true, true, true, true, true, true, true, true, true, true, true, true, true, true, true, true, true, true] (frOf [(0, ptr bw 0), (6, iV 0)]) (hOf [(0, ⟨true, bw, 0, 46, [.slice Aw m cw, .bool true, iV (till - 1), iV (torn : Int), iV (wr + 1)], 0⟩), (1, ⟨true, bS, 0, 27, ((es.set k (bG A80 b80 c80 ((l.take (torn - 0)) ++ ((((es.getD k default).l).drop torn).take (((es.getD k default).l.length) - torn)))))).map BG.v, cw - m⟩), (2, pRow ((es.getD k default).b) ((es.getD k default).q) ((es.getD k default).l)), (60, ⟨true, b80, 0, 5, (((l.take (torn - 0)) ++ ((((es.getD k default).l).drop torn).take (((es.getD k default).l.length) - torn)))).map u8V, c80 - (((l.take (torn - 0)) ++ ((((es.getD k default).l).drop torn).take (((es.getD k default).l.length) - torn)))).length⟩)]) := by
     refine hGo ?_
     refine At.bEnd (by kernel_rfl) ?_
     refine At.next ?_
     exact hKb _ _ ⟨A80, b80, c80, rfl, rfl, g80a, g80b, trivial⟩
    have hG12_1 (A80 : Option Addr) (b80 c80 : Nat) (g80a : 0 < c80 → A80 = some ⟨b80, 0, none⟩) (g80b : ((l.take (torn - 0)) ++ ((((es.getD k default).l).drop torn).take (((es.getD k default).l.length) - torn))).length ≤ c80) : G 1 #[true, true, true, true, true, true, true, true, true, true, true, true, true, true, true, true, true, false] (frOf [(0, ptr bw 0), (6, iV 0), (80, .slice A80 (((l.take (torn - 0)) ++ ((((es.getD k default).l).drop torn).take (((es.getD k default).l.length) - torn))).length) c80), (81, ptr bS k)]) (hOf [(0, ⟨true, bw, 0, 46, [.slice Aw m cw, .bool true, iV (till - 1), iV (torn : Int), iV (wr + 1)], 0⟩), (1, ⟨true, bS, 0, 27, (es).map BG.v, cw - m⟩), (2, pRow ((es.getD k default).b) ((es.getD k default).q) ((es.getD k default).l)), (60, ⟨true, b80, 0, 5, (((l.take (torn - 0)) ++ ((((es.getD k default).l).drop torn).take (((es.getD k default).l.length) - torn)))).map u8V, c80 - (((l.take (torn - 0)) ++ ((((es.getD k default).l).drop torn).take (((es.getD k default).l.length) - torn)))).length⟩)]) := by
     refine hGo ?_
     refine At.bStep [17] (by kernel_rfl) (by simp) ?_
     refine At.bS true (by kernel_rfl) (S_storeM none (f := BG.v) (l := es) (u := (bG A80 b80 c80 ((l.take (torn - 0)) ++ ((((es.getD k default).l).drop torn).take (((es.getD k default).l.length) - torn))))) (k := 1) rfl rfl rfl sz27 rfl rfl rfl OG ?_)
     exact At.into (hGi (hG12_0 A80 b80 c80 g80a g80b)) rfl rfl
    have hG12_2  : G 3 #[true, true, true, true, true, true, true, true, true, true, true, true, true, true, true, false, false, false] (frOf [(0, ptr bw 0), (6, iV 0), (68, .slice Aw m cw), (69, iV i), (70, .slice A64 ((l.take (torn - 0)).length) c64), (79, .slice (cut ((es.getD k default).A) torn ((es.getD k default).c) 1) (((es.getD k default).l.length) - torn) (((es.getD k default).c) - torn))]) (hOf [(0, ⟨true, bw, 0, 46, [.slice Aw m cw, .bool true, iV (till - 1), iV (torn : Int), iV (wr + 1)], 0⟩), (1, ⟨true, bS, 0, 27, (es).map BG.v, cw - m⟩), (2, pRow ((es.getD k default).b) ((es.getD k default).q) ((es.getD k default).l)), (60, ⟨true, b64, 0, 5, ((l.take (torn - 0))).map u8V, c64 - ((l.take (torn - 0))).length⟩)]) := by
     clear hG12_0
     refine hGo ?_
     refine At.bStep [15] (by kernel_rfl) (by simp) ?_
     refine At.bS true (by kernel_rfl) (S_appendM (some 80) 60 (((l.take (torn - 0)) ++ ((((es.getD k default).l).drop torn).take (((es.getD k default).l.length) - torn)))) (f := u8V) (l := (l.take (torn - 0))) (L := ((((es.getD k default).l).drop torn).take (((es.getD k default).l.length) - torn))) (m := (((es.getD k default).l.length) - torn)) rfl Try.underlying27 Try.underlying27 (.inr ⟨_, rfl⟩) sz5 by5 ze5 rfl rfl (fun h => ⟨g64a h, rfl⟩) LN OG (Src.part (k := 2) (j := torn) (l := ((es.getD k default).l)) rfl (fun h => cut_addr1 ((fun h => BG.adr hxo (by omega)) (by omega)) (by omega)) (fun _ => ⟨rfl, rfl, rfl⟩) OG) (fun _ => rfl) OG OG rfl LN ?_)
     intro A80 b80 c80 g80a g80b
     refine At.bP  16 (some 81) (P_indexAddr_slz (b := bS) (j := k) rfl Try.underlying44 sz27 rfl ((fun h => hAw (by omega)) OG) rfl RO OG) (by kernel_rfl) (by kernel_rfl) ?_
     exact At.into (hGi (hG12_1 A80 b80 c80 g80a g80b)) rfl rfl
    have hG12_3  : G 4 #[true, true, true, false, true, true, true, true, true, true, true, true, true, true, true, false, false, false] (frOf [(0, ptr bw 0), (6, iV 0), (67, ptr bw 0), (69, iV i), (70, .slice A64 ((l.take (torn - 0)).length) c64), (79, .slice (cut ((es.getD k default).A) torn ((es.getD k default).c) 1) (((es.getD k default).l.length) - torn) (((es.getD k default).c) - torn))]) (hOf [(0, ⟨true, bw, 0, 46, [.slice Aw m cw, .bool true, iV (till - 1), iV (torn : Int), iV (wr + 1)], 0⟩), (1, ⟨true, bS, 0, 27, (es).map BG.v, cw - m⟩), (2, pRow ((es.getD k default).b) ((es.getD k default).q) ((es.getD k default).l)), (60, ⟨true, b64, 0, 5, ((l.take (torn - 0))).map u8V, c64 - ((l.take (torn - 0))).length⟩)]) := by
     clear hG12_0
     refine hGo ?_
     refine At.bStep [3, 15] (by kernel_rfl) (by simp) ?_
     refine ⟨?_, ?_⟩
     ·
      refine At.bSQ (some 68) (Q_loadO (k := 0) rfl rfl Try.underlying44 rfl rfl rfl) ?_
      exact At.into (hGi (hG12_2 )) rfl rfl
     ·
      refine At.bS true (by kernel_rfl) (S_appendM (some 80) 60 (((l.take (torn - 0)) ++ ((((es.getD k default).l).drop torn).take (((es.getD k default).l.length) - torn)))) (f := u8V) (l := (l.take (torn - 0))) (L := ((((es.getD k default).l).drop torn).take (((es.getD k default).l.length) - torn))) (m := (((es.getD k default).l.length) - torn)) rfl Try.underlying27 Try.underlying27 (.inr ⟨_, rfl⟩) sz5 by5 ze5 rfl rfl (fun h => ⟨g64a h, rfl⟩) LN OG (Src.part (k := 2) (j := torn) (l := ((es.getD k default).l)) rfl (fun h => cut_addr1 ((fun h => BG.adr hxo (by omega)) (by omega)) (by omega)) (fun _ => ⟨rfl, rfl, rfl⟩) OG) (fun _ => rfl) OG OG rfl LN ?_)
      intro A80 b80 c80 g80a g80b
      refine At.bQ  3 (some 68) (Q_loadO (k := 0) rfl rfl Try.underlying44 rfl rfl rfl) (by kernel_rfl) (by kernel_rfl) ?_
      refine At.bP  16 (some 81) (P_indexAddr_slz (b := bS) (j := k) rfl Try.underlying44 sz27 rfl ((fun h => hAw (by omega)) OG) rfl RO OG) (by kernel_rfl) (by kernel_rfl) ?_
      exact At.into (hGi (hG12_1 A80 b80 c80 g80a g80b)) rfl rfl
    have hG12_4  : G 5 #[true, true, true, true, true, true, true, true, true, true, true, true, false, true, false, false, false, false] (frOf [(0, ptr bw 0), (6, iV 0), (68, .slice Aw m cw), (69, iV i), (70, .slice A64 ((l.take (torn - 0)).length) c64), (76, ptr bS k), (78, iV (torn : Int))]) (hOf [(0, ⟨true, bw, 0, 46, [.slice Aw m cw, .bool true, iV (till - 1), iV (torn : Int), iV (wr + 1)], 0⟩), (1, ⟨true, bS, 0, 27, (es).map BG.v, cw - m⟩), (2, pRow ((es.getD k default).b) ((es.getD k default).q) ((es.getD k default).l)), (60, ⟨true, b64, 0, 5, ((l.take (torn - 0))).map u8V, c64 - ((l.take (torn - 0))).length⟩)]) := by
     clear hG12_0 hG12_1 hG12_3
     refine hGo ?_
     refine At.bStep [12] (by kernel_rfl) (by simp) ?_
     refine At.bSQ (some 77) (Q_loadM (k := 1) (f := BG.v) (l := es) ((default : BG)) rfl rfl Try.underlying27 rfl rfl OG) ?_
     refine At.bP  14 (some 79) (P_slice_sl (l := torn) (h := (es.getD k default).l.length) (m := (es.getD k default).c) rfl Try.underlying27 sz5 rfl ⟨_, _, rfl, by omega⟩ rfl rfl DO DO DO) (by kernel_rfl) (by kernel_rfl) ?_
     exact At.into (hGi (hG12_2 )) rfl rfl
    have hG12_5  : G 6 #[true, true, true, false, true, true, true, true, true, true, true, true, false, true, false, false, false, false] (frOf [(0, ptr bw 0), (6, iV 0), (67, ptr bw 0), (69, iV i), (70, .slice A64 ((l.take (torn - 0)).length) c64), (76, ptr bS k), (78, iV (torn : Int))]) (hOf [(0, ⟨true, bw, 0, 46, [.slice Aw m cw, .bool true, iV (till - 1), iV (torn : Int), iV (wr + 1)], 0⟩), (1, ⟨true, bS, 0, 27, (es).map BG.v, cw - m⟩), (2, pRow ((es.getD k default).b) ((es.getD k default).q) ((es.getD k default).l)), (60, ⟨true, b64, 0, 5, ((l.take (torn - 0))).map u8V, c64 - ((l.take (torn - 0))).length⟩)]) := by
     clear hG12_0 hG12_1 hG12_2
     refine hGo ?_
     refine At.bStep [3, 12] (by kernel_rfl) (by simp) ?_
     refine ⟨?_, ?_⟩
     ·
      refine At.bSQ (some 68) (Q_loadO (k := 0) rfl rfl Try.underlying44 rfl rfl rfl) ?_
      exact At.into (hGi (hG12_4 )) rfl rfl
     ·
      refine At.bSQ (some 77) (Q_loadM (k := 1) (f := BG.v) (l := es) ((default : BG)) rfl rfl Try.underlying27 rfl rfl OG) ?_
      refine At.bP  14 (some 79) (P_slice_sl (l := torn) (h := (es.getD k default).l.length) (m := (es.getD k default).c) rfl Try.underlying27 sz5 rfl ⟨_, _, rfl, by omega⟩ rfl rfl DO DO DO) (by kernel_rfl) (by kernel_rfl) ?_
      exact At.into (hGi (hG12_3 )) rfl rfl
    have hG12_6  : G 7 #[true, true, true, true, true, true, true, true, true, false, true, false, false, true, false, false, false, false] (frOf [(0, ptr bw 0), (6, iV 0), (68, .slice Aw m cw), (69, iV i), (70, .slice A64 ((l.take (torn - 0)).length) c64), (73, ptr bw 0), (75, iV i), (78, iV (torn : Int))]) (hOf [(0, ⟨true, bw, 0, 46, [.slice Aw m cw, .bool true, iV (till - 1), iV (torn : Int), iV (wr + 1)], 0⟩), (1, ⟨true, bS, 0, 27, (es).map BG.v, cw - m⟩), (2, pRow ((es.getD k default).b) ((es.getD k default).q) ((es.getD k default).l)), (60, ⟨true, b64, 0, 5, ((l.take (torn - 0))).map u8V, c64 - ((l.take (torn - 0))).length⟩)]) := by
     clear hG12_0 hG12_1 hG12_2 hG12_3 hG12_5
     refine hGo ?_
     refine At.bStep [9] (by kernel_rfl) (by simp) ?_
     refine At.bSQ (some 74) (Q_loadO (k := 0) rfl rfl Try.underlying44 rfl rfl rfl) ?_
     refine At.bP  11 (some 76) (P_indexAddr_slz (b := bS) (j := k) rfl Try.underlying44 sz27 rfl ((fun h => hAw (by omega)) OG) rfl RO OG) (by kernel_rfl) (by kernel_rfl) ?_
     exact At.into (hGi (hG12_4 )) rfl rfl
    have hG12_7  : G 8 #[true, true, true, false, true, true, true, true, true, false, true, false, false, true, false, false, false, false] (frOf [(0, ptr bw 0), (6, iV 0), (67, ptr bw 0), (69, iV i), (70, .slice A64 ((l.take (torn - 0)).length) c64), (73, ptr bw 0), (75, iV i), (78, iV (torn : Int))]) (hOf [(0, ⟨true, bw, 0, 46, [.slice Aw m cw, .bool true, iV (till - 1), iV (torn : Int), iV (wr + 1)], 0⟩), (1, ⟨true, bS, 0, 27, (es).map BG.v, cw - m⟩), (2, pRow ((es.getD k default).b) ((es.getD k default).q) ((es.getD k default).l)), (60, ⟨true, b64, 0, 5, ((l.take (torn - 0))).map u8V, c64 - ((l.take (torn - 0))).length⟩)]) := by
     clear hG12_0 hG12_1 hG12_2 hG12_3 hG12_4
     refine hGo ?_
     refine At.bStep [3, 9] (by kernel_rfl) (by simp) ?_
     refine ⟨?_, ?_⟩
     ·
      refine At.bSQ (some 68) (Q_loadO (k := 0) rfl rfl Try.underlying44 rfl rfl rfl) ?_
      exact At.into (hGi (hG12_6 )) rfl rfl
     ·
      refine At.bSQ (some 74) (Q_loadO (k := 0) rfl rfl Try.underlying44 rfl rfl rfl) ?_
      refine At.bP  11 (some 76) (P_indexAddr_slz (b := bS) (j := k) rfl Try.underlying44 sz27 rfl ((fun h => hAw (by omega)) OG) rfl RO OG) (by kernel_rfl) (by kernel_rfl) ?_
      exact At.into (hGi (hG12_5 )) rfl rfl
    clear hG12_0 hG12_1 hG12_2 hG12_3 hG12_4 hG12_5 hG12_6
    refine hGo ?_
    refine At.bP  0 (some 65) (P_move rfl rfl) (by kernel_rfl) (by kernel_rfl) ?_
    refine At.bP  1 (some 66) (P_nilCheck rfl rfl) (by kernel_rfl) (by kernel_rfl) ?_
    refine At.bP  2 (some 67) (P_fieldAddr0 (off := 0) rfl Try.underlying46 rfl sz44 rfl rfl) (by kernel_rfl) (by kernel_rfl) ?_
    refine At.bP  4 (some 69) (P_move rfl rfl) (by kernel_rfl) (by kernel_rfl) ?_
    refine At.bP  5 (some 70) (P_move rfl rfl) (by kernel_rfl) (by kernel_rfl) ?_
    refine At.bP  6 (some 71) (P_move rfl rfl) (by kernel_rfl) (by kernel_rfl) ?_
    refine At.bP  7 (some 72) (P_nilCheck rfl rfl) (by kernel_rfl) (by kernel_rfl) ?_
    refine At.bP  8 (some 73) (P_fieldAddr0 (off := 0) rfl Try.underlying46 rfl sz44 rfl rfl) (by kernel_rfl) (by kernel_rfl) ?_
    refine At.bP  10 (some 75) (P_move rfl rfl) (by kernel_rfl) (by kernel_rfl) ?_
    refine At.bP  13 (some 78) (P_move rfl rfl) (by kernel_rfl) (by kernel_rfl) ?_
    exact At.into (hGi (hG12_7 )) rfl rfl
   ·
    rintro fr H ⟨A80, b80, c80, rfl, rfl, g80a, g80b, -⟩
    refine At.next ?_
    refine At.seq ?_
    refine At.seq ?_
    refine At.region ?_
    refine At.p (some 82) (P_move rfl rfl) ?_
    refine At.p (some 83) (P_nilCheck rfl rfl) ?_
    refine At.p (some 84) (P_fieldAddr0 (off := 1) rfl Try.underlying46 rfl sz4 rfl rfl) ?_
    refine At.q (some 85) (Q_loadO (k := 0) rfl rfl Try.underlying4 rfl rfl rfl) ?_
    refine At.nil ?_
    refine At.next ?_
    refine At.cond rfl (fun h85 => ?_) (fun h85 => by cases h85)
    refine At.seq ?_
    refine At.region ?_
    refine At.p (some 6) (P_assign rfl rfl) ?_
    refine At.nil ?_
    refine At.next ?_
    refine At.ret ?_
    refine At.thn_r ?_
    have hz : decide (till = 0) = true := decide_eq_true (by omega)
    have hm : (till - 1) = max (till - 1) (-1) := by omega
    have he : wrE till = 6 := by unfold wrE; rw [if_pos (by omega)]
    have hw : wrL till torn l (es.getD k default).l = ((l.take (torn - 0)) ++ ((((es.getD k default).l).drop torn).take (((es.getD k default).l.length) - torn))) := by unfold wrL; rw [if_pos (by omega)]; exact hdy
    refine At.give (.inl rfl) [0, 1, 60] (rows' := [_, _, _]) (vs := [_]) rfl ⟨rfl, trivial⟩ rfl (by simp) (by simp) ?_
    exact ⟨bG A80 b80 c80 ((l.take (torn - 0)) ++ ((((es.getD k default).l).drop torn).take (((es.getD k default).l.length) - torn))), bG_ok (fun h => g80a h) (by omega), hw.symm, by rw [he]; rfl, by rw [hz, ← hm]; rfl⟩
  · -- cond 52 f
   have e52 : ¬ till ≥ 0 := of_decide_eq_false h52
   refine At.skip ?_
   refine At.next ?_
   refine At.seq ?_
   refine At.region ?_
   refine At.s (S_buildSlice0 (some 60) 60 rfl Try.underlying27 sz5 (fun b60 => ?_))
   refine At.p (some 61) (P_move rfl rfl) ?_
   refine At.p (some 62) (P_move rfl rfl) ?_
   refine At.p (some 63) (P_slice_sl (l := 0) (h := torn) (m := c) rfl Try.underlying27 sz5 rfl rfl ⟨_, _, rfl, by omega⟩ rfl DO DO DO) ?_
   refine At.s (S_appendM (some 64) 60 ((l.take (torn - 0))) (f := u8V) (l := []) (L := (l.take (torn - 0))) (m := (torn - 0)) rfl Try.underlying27 Try.underlying27 (.inr ⟨_, rfl⟩) sz5 by5 ze5 rfl rfl (fun h => ⟨rfl, rfl⟩) LN OG (Src.part (k := 3) (j := 0) (l := l) rfl (fun h => cut_zero (hA (by omega))) (fun _ => ⟨rfl, rfl, (Nat.add_zero _)⟩) OG) (fun _ => rfl) OG OG rfl LN ?_)
   intro A64 b64 c64 g64a g64b
   refine At.p (some 8) (P_assign rfl rfl) ?_
   refine At.nil ?_
   refine At.next ?_
   refine At.seq ?_
   have hxc := BG.le hxo
   have hdz := wr_f (l := l) (o := (es.getD k default).l) (by omega) hxl
   have hdy := wr_t (n := torn) (l := l) (o := (es.getD k default).l)
   have hok77 : BG.ok (es.getD k default) := hes _ (getDG_mem OG)
   refine At.bBruteG [15, 17] (fun fr H => ∃ (A80 : Option Addr) (b80 c80 : Nat), fr = frOf [(0, ptr bw 0), (6, iV 0)] ∧ H = hOf [(0, ⟨true, bw, 0, 46, [.slice Aw m cw, .bool true, iV till, iV (torn : Int), iV (wr + 1)], 0⟩), (1, ⟨true, bS, 0, 27, ((es.set k (bG A80 b80 c80 ((l.take (torn - 0)) ++ ((((es.getD k default).l).drop torn).take (((es.getD k default).l.length) - torn)))))).map BG.v, cw - m⟩), (2, pRow ((es.getD k default).b) ((es.getD k default).q) ((es.getD k default).l)), (60, ⟨true, b80, 0, 5, (((l.take (torn - 0)) ++ ((((es.getD k default).l).drop torn).take (((es.getD k default).l.length) - torn)))).map u8V, c80 - (((l.take (torn - 0)) ++ ((((es.getD k default).l).drop torn).take (((es.getD k default).l.length) - torn)))).length⟩)] ∧ (0 < c80 → A80 = some ⟨b80, 0, none⟩) ∧ (((l.take (torn - 0)) ++ ((((es.getD k default).l).drop torn).take (((es.getD k default).l.length) - torn))).length ≤ c80) ∧ True) (by kernel_rfl) ?_ ?_
   ·
    intro Kb hKb G hGi hGo
    have hG12_0 (A80 : Option Addr) (b80 c80 : Nat) (g80a : 0 < c80 → A80 = some ⟨b80, 0, none⟩) (g80b : ((l.take (torn - 0)) ++ ((((es.getD k default).l).drop torn).take (((es.getD k default).l.length) - torn))).length ≤ c80) : G 0 #[true, true, true, true, true, true, true, true, true, true, true, true, true, true, true, true, true, true] (frOf [(0, ptr bw 0), (6, iV 0)]) (hOf [(0, ⟨true, bw, 0, 46, [.slice Aw m cw, .bool true, iV till, iV (torn : Int), iV (wr + 1)], 0⟩), (1, ⟨true, bS, 0, 27, ((es.set k (bG A80 b80 c80 ((l.take (torn - 0)) ++ ((((es.getD k default).l).drop torn).take (((es.getD k default).l.length) - torn)))))).map BG.v, cw - m⟩), (2, pRow ((es.getD k default).b) ((es.getD k default).q) ((es.getD k default).l)), (60, ⟨true, b80, 0, 5, (((l.take (torn - 0)) ++ ((((es.getD k default).l).drop torn).take (((es.getD k default).l.length) - torn)))).map u8V, c80 - (((l.take (torn - 0)) ++ ((((es.getD k default).l).drop torn).take (((es.getD k default).l.length) - torn)))).length⟩)]) := by
     refine hGo ?_
     refine At.bEnd (by kernel_rfl) ?_
     refine At.next ?_
     exact hKb _ _ ⟨A80, b80, c80, rfl, rfl, g80a, g80b, trivial⟩
    have hG12_1 (A80 : Option Addr) (b80 c80 : Nat) (g80a : 0 < c80 → A80 = some ⟨b80, 0, none⟩) (g80b : ((l.take (torn - 0)) ++ ((((es.getD k default).l).drop torn).take (((es.getD k default).l.length) - torn))).length ≤ c80) : G 1 #[true, true, true, true, true, true, true, true, true, true, true, true, true, true, true, true, true, false] (frOf [(0, ptr bw 0), (6, iV 0), (80, .slice A80 (((l.take (torn - 0)) ++ ((((es.getD k default).l).drop torn).take (((es.getD k default).l.length) - torn))).length) c80), (81, ptr bS k)]) (hOf [(0, ⟨true, bw, 0, 46, [.slice Aw m cw, .bool true, iV till, iV (torn : Int), iV (wr + 1)], 0⟩), (1, ⟨true, bS, 0, 27, (es).map BG.v, cw - m⟩), (2, pRow ((es.getD k default).b) ((es.getD k default).q) ((es.getD k default).l)), (60, ⟨true, b80, 0, 5, (((l.take (torn - 0)) ++ ((((es.getD k default).l).drop torn).take (((es.getD k default).l.length) - torn)))).map u8V, c80 - (((l.take (torn - 0)) ++ ((((es.getD k default).l).drop torn).take (((es.getD k default).l.length) - torn)))).length⟩)]) := by
     refine hGo ?_
     refine At.bStep [17] (by kernel_rfl) (by simp) ?_
     refine At.bS true (by kernel_rfl) (S_storeM none (f := BG.v) (l := es) (u := (bG A80 b80 c80 ((l.take (torn - 0)) ++ ((((es.getD k default).l).drop torn).take (((es.getD k default).l.length) - torn))))) (k := 1) rfl rfl rfl sz27 rfl rfl rfl OG ?_)
     exact At.into (hGi (hG12_0 A80 b80 c80 g80a g80b)) rfl rfl
    have hG12_2  : G 3 #[true, true, true, true, true, true, true, true, true, true, true, true, true, true, true, false, false, false] (frOf [(0, ptr bw 0), (6, iV 0), (68, .slice Aw m cw), (69, iV i), (70, .slice A64 ((l.take (torn - 0)).length) c64), (79, .slice (cut ((es.getD k default).A) torn ((es.getD k default).c) 1) (((es.getD k default).l.length) - torn) (((es.getD k default).c) - torn))]) (hOf [(0, ⟨true, bw, 0, 46, [.slice Aw m cw, .bool true, iV till, iV (torn : Int), iV (wr + 1)], 0⟩), (1, ⟨true, bS, 0, 27, (es).map BG.v, cw - m⟩), (2, pRow ((es.getD k default).b) ((es.getD k default).q) ((es.getD k default).l)), (60, ⟨true, b64, 0, 5, ((l.take (torn - 0))).map u8V, c64 - ((l.take (torn - 0))).length⟩)]) := by
     clear hG12_0
     refine hGo ?_
     refine At.bStep [15] (by kernel_rfl) (by simp) ?_
     refine At.bS true (by kernel_rfl) (S_appendM (some 80) 60 (((l.take (torn - 0)) ++ ((((es.getD k default).l).drop torn).take (((es.getD k default).l.length) - torn)))) (f := u8V) (l := (l.take (torn - 0))) (L := ((((es.getD k default).l).drop torn).take (((es.getD k default).l.length) - torn))) (m := (((es.getD k default).l.length) - torn)) rfl Try.underlying27 Try.underlying27 (.inr ⟨_, rfl⟩) sz5 by5 ze5 rfl rfl (fun h => ⟨g64a h, rfl⟩) LN OG (Src.part (k := 2) (j := torn) (l := ((es.getD k default).l)) rfl (fun h => cut_addr1 ((fun h => BG.adr hxo (by omega)) (by omega)) (by omega)) (fun _ => ⟨rfl, rfl, rfl⟩) OG) (fun _ => rfl) OG OG rfl LN ?_)
     intro A80 b80 c80 g80a g80b
     refine At.bP  16 (some 81) (P_indexAddr_slz (b := bS) (j := k) rfl Try.underlying44 sz27 rfl ((fun h => hAw (by omega)) OG) rfl RO OG) (by kernel_rfl) (by kernel_rfl) ?_
     exact At.into (hGi (hG12_1 A80 b80 c80 g80a g80b)) rfl rfl
    have hG12_3  : G 4 #[true, true, true, false, true, true, true, true, true, true, true, true, true, true, true, false, false, false] (frOf [(0, ptr bw 0), (6, iV 0), (67, ptr bw 0), (69, iV i), (70, .slice A64 ((l.take (torn - 0)).length) c64), (79, .slice (cut ((es.getD k default).A) torn ((es.getD k default).c) 1) (((es.getD k default).l.length) - torn) (((es.getD k default).c) - torn))]) (hOf [(0, ⟨true, bw, 0, 46, [.slice Aw m cw, .bool true, iV till, iV (torn : Int), iV (wr + 1)], 0⟩), (1, ⟨true, bS, 0, 27, (es).map BG.v, cw - m⟩), (2, pRow ((es.getD k default).b) ((es.getD k default).q) ((es.getD k default).l)), (60, ⟨true, b64, 0, 5, ((l.take (torn - 0))).map u8V, c64 - ((l.take (torn - 0))).length⟩)]) := by
     clear hG12_0
     refine hGo ?_
     refine At.bStep [3, 15] (by kernel_rfl) (by simp) ?_
     refine ⟨?_, ?_⟩
     ·
      refine At.bSQ (some 68) (Q_loadO (k := 0) rfl rfl Try.underlying44 rfl rfl rfl) ?_
      exact At.into (hGi (hG12_2 )) rfl rfl
     ·
      refine At.bS true (by kernel_rfl) (S_appendM (some 80) 60 (((l.take (torn - 0)) ++ ((((es.getD k default).l).drop torn).take (((es.getD k default).l.length) - torn)))) (f := u8V) (l := (l.take (torn - 0))) (L := ((((es.getD k default).l).drop torn).take (((es.getD k default).l.length) - torn))) (m := (((es.getD k default).l.length) - torn)) rfl Try.underlying27 Try.underlying27 (.inr ⟨_, rfl⟩) sz5 by5 ze5 rfl rfl (fun h => ⟨g64a h, rfl⟩) LN OG (Src.part (k := 2) (j := torn) (l := ((es.getD k default).l)) rfl (fun h => cut_addr1 ((fun h => BG.adr hxo (by omega)) (by omega)) (by omega)) (fun _ => ⟨rfl, rfl, rfl⟩) OG) (fun _ => rfl) OG OG rfl LN ?_)
      intro A80 b80 c80 g80a g80b
      refine At.bQ  3 (some 68) (Q_loadO (k := 0) rfl rfl Try.underlying44 rfl rfl rfl) (by kernel_rfl) (by kernel_rfl) ?_
      refine At.bP  16 (some 81) (P_indexAddr_slz (b := bS) (j := k) rfl Try.underlying44 sz27 rfl ((fun h => hAw (by omega)) OG) rfl RO OG) (by kernel_rfl) (by kernel_rfl) ?_
      exact At.into (hGi (hG12_1 A80 b80 c80 g80a g80b)) rfl rfl
    have hG12_4  : G 5 #[true, true, true, true, true, true, true, true, true, true, true, true, false, true, false, false, false, false] (frOf [(0, ptr bw 0), (6, iV 0), (68, .slice Aw m cw), (69, iV i), (70, .slice A64 ((l.take (torn - 0)).length) c64), (76, ptr bS k), (78, iV (torn : Int))]) (hOf [(0, ⟨true, bw, 0, 46, [.slice Aw m cw, .bool true, iV till, iV (torn : Int), iV (wr + 1)], 0⟩), (1, ⟨true, bS, 0, 27, (es).map BG.v, cw - m⟩), (2, pRow ((es.getD k default).b) ((es.getD k default).q) ((es.getD k default).l)), (60, ⟨true, b64, 0, 5, ((l.take (torn - 0))).map u8V, c64 - ((l.take (torn - 0))).length⟩)]) := by
     clear hG12_0 hG12_1 hG12_3
     refine hGo ?_
     refine At.bStep [12] (by kernel_rfl) (by simp) ?_
     refine At.bSQ (some 77) (Q_loadM (k := 1) (f := BG.v) (l := es) ((default : BG)) rfl rfl Try.underlying27 rfl rfl OG) ?_
     refine At.bP  14 (some 79) (P_slice_sl (l := torn) (h := (es.getD k default).l.length) (m := (es.getD k default).c) rfl Try.underlying27 sz5 rfl ⟨_, _, rfl, by omega⟩ rfl rfl DO DO DO) (by kernel_rfl) (by kernel_rfl) ?_
     exact At.into (hGi (hG12_2 )) rfl rfl
    have hG12_5  : G 6 #[true, true, true, false, true, true, true, true, true, true, true, true, false, true, false, false, false, false] (frOf [(0, ptr bw 0), (6, iV 0), (67, ptr bw 0), (69, iV i), (70, .slice A64 ((l.take (torn - 0)).length) c64), (76, ptr bS k), (78, iV (torn : Int))]) (hOf [(0, ⟨true, bw, 0, 46, [.slice Aw m cw, .bool true, iV till, iV (torn : Int), iV (wr + 1)], 0⟩), (1, ⟨true, bS, 0, 27, (es).map BG.v, cw - m⟩), (2, pRow ((es.getD k default).b) ((es.getD k default).q) ((es.getD k default).l)), (60, ⟨true, b64, 0, 5, ((l.take (torn - 0))).map u8V, c64 - ((l.take (torn - 0))).length⟩)]) := by
     clear hG12_0 hG12_1 hG12_2
     refine hGo ?_
     refine At.bStep [3, 12] (by kernel_rfl) (by simp) ?_
     refine ⟨?_, ?_⟩
     ·
      refine At.bSQ (some 68) (Q_loadO (k := 0) rfl rfl Try.underlying44 rfl rfl rfl) ?_
      exact At.into (hGi (hG12_4 )) rfl rfl
     ·
      refine At.bSQ (some 77) (Q_loadM (k := 1) (f := BG.v) (l := es) ((default : BG)) rfl rfl Try.underlying27 rfl rfl OG) ?_
      refine At.bP  14 (some 79) (P_slice_sl (l := torn) (h := (es.getD k default).l.length) (m := (es.getD k default).c) rfl Try.underlying27 sz5 rfl ⟨_, _, rfl, by omega⟩ rfl rfl DO DO DO) (by kernel_rfl) (by kernel_rfl) ?_
      exact At.into (hGi (hG12_3 )) rfl rfl
    have hG12_6  : G 7 #[true, true, true, true, true, true, true, true, true, false, true, false, false, true, false, false, false, false] (frOf [(0, ptr bw 0), (6, iV 0), (68, .slice Aw m cw), (69, iV i), (70, .slice A64 ((l.take (torn - 0)).length) c64), (73, ptr bw 0), (75, iV i), (78, iV (torn : Int))]) (hOf [(0, ⟨true, bw, 0, 46, [.slice Aw m cw, .bool true, iV till, iV (torn : Int), iV (wr + 1)], 0⟩), (1, ⟨true, bS, 0, 27, (es).map BG.v, cw - m⟩), (2, pRow ((es.getD k default).b) ((es.getD k default).q) ((es.getD k default).l)), (60, ⟨true, b64, 0, 5, ((l.take (torn - 0))).map u8V, c64 - ((l.take (torn - 0))).length⟩)]) := by
     clear hG12_0 hG12_1 hG12_2 hG12_3 hG12_5
     refine hGo ?_
     refine At.bStep [9] (by kernel_rfl) (by simp) ?_
     refine At.bSQ (some 74) (Q_loadO (k := 0) rfl rfl Try.underlying44 rfl rfl rfl) ?_
     refine At.bP  11 (some 76) (P_indexAddr_slz (b := bS) (j := k) rfl Try.underlying44 sz27 rfl ((fun h => hAw (by omega)) OG) rfl RO OG) (by kernel_rfl) (by kernel_rfl) ?_
     exact At.into (hGi (hG12_4 )) rfl rfl
    have hG12_7  : G 8 #[true, true, true, false, true, true, true, true, true, false, true, false, false, true, false, false, false, false] (frOf [(0, ptr bw 0), (6, iV 0), (67, ptr bw 0), (69, iV i), (70, .slice A64 ((l.take (torn - 0)).length) c64), (73, ptr bw 0), (75, iV i), (78, iV (torn : Int))]) (hOf [(0, ⟨true, bw, 0, 46, [.slice Aw m cw, .bool true, iV till, iV (torn : Int), iV (wr + 1)], 0⟩), (1, ⟨true, bS, 0, 27, (es).map BG.v, cw - m⟩), (2, pRow ((es.getD k default).b) ((es.getD k default).q) ((es.getD k default).l)), (60, ⟨true, b64, 0, 5, ((l.take (torn - 0))).map u8V, c64 - ((l.take (torn - 0))).length⟩)]) := by
     clear hG12_0 hG12_1 hG12_2 hG12_3 hG12_4
     refine hGo ?_
     refine At.bStep [3, 9] (by kernel_rfl) (by simp) ?_
     refine ⟨?_, ?_⟩
     ·
      refine At.bSQ (some 68) (Q_loadO (k := 0) rfl rfl Try.underlying44 rfl rfl rfl) ?_
      exact At.into (hGi (hG12_6 )) rfl rfl
     ·
      refine At.bSQ (some 74) (Q_loadO (k := 0) rfl rfl Try.underlying44 rfl rfl rfl) ?_
      refine At.bP  11 (some 76) (P_indexAddr_slz (b := bS) (j := k) rfl Try.underlying44 sz27 rfl ((fun h => hAw (by omega)) OG) rfl RO OG) (by kernel_rfl) (by kernel_rfl) ?_
      exact At.into (hGi (hG12_5 )) rfl rfl
    clear hG12_0 hG12_1 hG12_2 hG12_3 hG12_4 hG12_5 hG12_6
    refine hGo ?_
    refine At.bP  0 (some 65) (P_move rfl rfl) (by kernel_rfl) (by kernel_rfl) ?_
    refine At.bP  1 (some 66) (P_nilCheck rfl rfl) (by kernel_rfl) (by kernel_rfl) ?_
    refine At.bP  2 (some 67) (P_fieldAddr0 (off := 0) rfl Try.underlying46 rfl sz44 rfl rfl) (by kernel_rfl) (by kernel_rfl) ?_
    refine At.bP  4 (some 69) (P_move rfl rfl) (by kernel_rfl) (by kernel_rfl) ?_
    refine At.bP  5 (some 70) (P_move rfl rfl) (by kernel_rfl) (by kernel_rfl) ?_
    refine At.bP  6 (some 71) (P_move rfl rfl) (by kernel_rfl) (by kernel_rfl) ?_
    refine At.bP  7 (some 72) (P_nilCheck rfl rfl) (by kernel_rfl) (by kernel_rfl) ?_
    refine At.bP  8 (some 73) (P_fieldAddr0 (off := 0) rfl Try.underlying46 rfl sz44 rfl rfl) (by kernel_rfl) (by kernel_rfl) ?_
    refine At.bP  10 (some 75) (P_move rfl rfl) (by kernel_rfl) (by kernel_rfl) ?_
    refine At.bP  13 (some 78) (P_move rfl rfl) (by kernel_rfl) (by kernel_rfl) ?_
    exact At.into (hGi (hG12_7 )) rfl rfl
   ·
    rintro fr H ⟨A80, b80, c80, rfl, rfl, g80a, g80b, -⟩
    refine At.next ?_
    refine At.seq ?_
    refine At.seq ?_
    refine At.region ?_
    refine At.p (some 82) (P_move rfl rfl) ?_
    refine At.p (some 83) (P_nilCheck rfl rfl) ?_
    refine At.p (some 84) (P_fieldAddr0 (off := 1) rfl Try.underlying46 rfl sz4 rfl rfl) ?_
    refine At.q (some 85) (Q_loadO (k := 0) rfl rfl Try.underlying4 rfl rfl rfl) ?_
    refine At.nil ?_
    refine At.next ?_
    refine At.cond rfl (fun h85 => ?_) (fun h85 => by cases h85)
    refine At.seq ?_
    refine At.region ?_
    refine At.p (some 6) (P_assign rfl rfl) ?_
    refine At.nil ?_
    refine At.next ?_
    refine At.ret ?_
    refine At.thn_r ?_
    have hz : decide (till = 0) = true := decide_eq_true (by omega)
    have hm : till = max (till - 1) (-1) := by omega
    have he : wrE till = 6 := by unfold wrE; rw [if_pos (by omega)]
    have hw : wrL till torn l (es.getD k default).l = ((l.take (torn - 0)) ++ ((((es.getD k default).l).drop torn).take (((es.getD k default).l.length) - torn))) := by unfold wrL; rw [if_pos (by omega)]; exact hdy
    refine At.give (.inl rfl) [0, 1, 60] (rows' := [_, _, _]) (vs := [_]) rfl ⟨rfl, trivial⟩ rfl (by simp) (by simp) ?_
    exact ⟨bG A80 b80 c80 ((l.take (torn - 0)) ++ ((((es.getD k default).l).drop torn).take (((es.getD k default).l.length) - torn))), bG_ok (fun h => g80a h) (by omega), hw.symm, by rw [he]; rfl, by rw [hz, ← hm]; rfl⟩
 · -- cond 40 f
  have e40 : till ≠ 0 := beq_eq_false_iff_ne.1 h40
  refine At.skip ?_
  refine At.next ?_
  refine At.seq ?_
  refine At.seq ?_
  refine At.region ?_
  refine At.p (some 48) (P_move rfl rfl) ?_
  refine At.p (some 49) (P_nilCheck rfl rfl) ?_
  refine At.p (some 50) (P_fieldAddr0 (off := 2) rfl Try.underlying46 rfl sz3 rfl rfl) ?_
  refine At.q (some 51) (Q_loadO (k := 0) rfl rfl Try.underlying3 rfl rfl rfl) ?_
  refine At.p (some 52) (P_cmp rfl rfl rfl rfl rfl rfl) ?_
  refine At.nil ?_
  refine At.next ?_
  refine At.cond rfl (fun h52 => ?_) (fun h52 => ?_)
  · -- cond 52 t
   have e52 : till ≥ 0 := of_decide_eq_true h52
   refine At.region ?_
   refine At.p (some 53) (P_move rfl rfl) ?_
   refine At.p (some 54) (P_nilCheck rfl rfl) ?_
   refine At.p (some 55) (P_fieldAddr0 (off := 2) rfl Try.underlying46 rfl sz3 rfl rfl) ?_
   refine At.q (some 56) (Q_loadO (k := 0) rfl rfl Try.underlying3 rfl rfl rfl) ?_
   refine At.p (some 57) (P_sub_i rfl rfl rfl (by omega)) ?_
   refine At.p (some 58) (P_nilCheck rfl rfl) ?_
   refine At.p (some 59) (P_fieldAddr0 (off := 2) rfl Try.underlying46 rfl sz3 rfl rfl) ?_
   refine At.s (S_store none (k := 0) rfl rfl rfl sz3 rfl rfl rfl LN ?_)
   refine At.nil ?_
   refine At.next ?_
   refine At.seq ?_
   refine At.region ?_
   refine At.s (S_buildSlice0 (some 60) 60 rfl Try.underlying27 sz5 (fun b60 => ?_))
   refine At.p (some 61) (P_move rfl rfl) ?_
   refine At.p (some 62) (P_move rfl rfl) ?_
   refine At.p (some 63) (P_slice_sl (l := 0) (h := 64) (m := c) rfl Try.underlying27 sz5 rfl rfl ⟨_, _, rfl, by omega⟩ rfl DO DO DO) ?_
   refine At.s (S_appendM (some 64) 60 ((l.take (64 - 0))) (f := u8V) (l := []) (L := (l.take (64 - 0))) (m := (64 - 0)) rfl Try.underlying27 Try.underlying27 (.inr ⟨_, rfl⟩) sz5 by5 ze5 rfl rfl (fun h => ⟨rfl, rfl⟩) LN OG (Src.part (k := 3) (j := 0) (l := l) rfl (fun h => cut_zero (hA (by omega))) (fun _ => ⟨rfl, rfl, (Nat.add_zero _)⟩) OG) (fun _ => rfl) OG OG rfl LN ?_)
   intro A64 b64 c64 g64a g64b
   refine At.p (some 8) (P_assign rfl rfl) ?_
   refine At.nil ?_
   refine At.next ?_
   refine At.seq ?_
   have hxc := BG.le hxo
   have hdz := wr_f (l := l) (o := (es.getD k default).l) (by omega) hxl
   have hdy := wr_t (n := torn) (l := l) (o := (es.getD k default).l)
   have hok77 : BG.ok (es.getD k default) := hes _ (getDG_mem OG)
   refine At.bBruteG [15, 17] (fun fr H => ∃ (A80 : Option Addr) (b80 c80 : Nat), fr = frOf [(0, ptr bw 0), (6, iV 0)] ∧ H = hOf [(0, ⟨true, bw, 0, 46, [.slice Aw m cw, .bool off, iV (till - 1), iV (torn : Int), iV (wr + 1)], 0⟩), (1, ⟨true, bS, 0, 27, ((es.set k (bG A80 b80 c80 ((l.take (64 - 0)) ++ ((((es.getD k default).l).drop 64).take (((es.getD k default).l.length) - 64)))))).map BG.v, cw - m⟩), (2, pRow ((es.getD k default).b) ((es.getD k default).q) ((es.getD k default).l)), (60, ⟨true, b80, 0, 5, (((l.take (64 - 0)) ++ ((((es.getD k default).l).drop 64).take (((es.getD k default).l.length) - 64)))).map u8V, c80 - (((l.take (64 - 0)) ++ ((((es.getD k default).l).drop 64).take (((es.getD k default).l.length) - 64)))).length⟩)] ∧ (0 < c80 → A80 = some ⟨b80, 0, none⟩) ∧ (((l.take (64 - 0)) ++ ((((es.getD k default).l).drop 64).take (((es.getD k default).l.length) - 64))).length ≤ c80) ∧ True) (by kernel_rfl) ?_ ?_
   ·
    intro Kb hKb G hGi hGo
    have hG12_0 (A80 : Option Addr) (b80 c80 : Nat) (g80a : 0 < c80 → A80 = some ⟨b80, 0, none⟩) (g80b : ((l.take (64 - 0)) ++ ((((es.getD k default).l).drop 64).take (((es.getD k default).l.length) - 64))).length ≤ c80) : G 0 #[true, true, true, true, true, true, true, true, true, true, true, true, true, true, true, true, true, true] (frOf [(0, ptr bw 0), (6, iV 0)]) (hOf [(0, ⟨true, bw, 0, 46, [.slice Aw m cw, .bool off, iV (till - 1), iV (torn : Int), iV (wr + 1)], 0⟩), (1, ⟨true, bS, 0, 27, ((es.set k (bG A80 b80 c80 ((l.take (64 - 0)) ++ ((((es.getD k default).l).drop 64).take (((es.getD k default).l.length) - 64)))))).map BG.v, cw - m⟩), (2, pRow ((es.getD k default).b) ((es.getD k default).q) ((es.getD k default).l)), (60, ⟨true, b80, 0, 5, (((l.take (64 - 0)) ++ ((((es.getD k default).l).drop 64).take (((es.getD k default).l.length) - 64)))).map u8V, c80 - (((l.take (64 - 0)) ++ ((((es.getD k default).l).drop 64).take (((es.getD k default).l.length) - 64)))).length⟩)]) := by
     refine hGo ?_
     refine At.bEnd (by kernel_rfl) ?_
     refine At.next ?_
     exact hKb _ _ ⟨A80, b80, c80, rfl, rfl, g80a, g80b, trivial⟩
    have hG12_1 (A80 : Option Addr) (b80 c80 : Nat) (g80a : 0 < c80 → A80 = some ⟨b80, 0, none⟩) (g80b : ((l.take (64 - 0)) ++ ((((es.getD k default).l).drop 64).take (((es.getD k default).l.length) - 64))).length ≤ c80) : G 1 #[true, true, true, true, true, true, true, true, true, true, true, true, true, true, true, true, true, false] (frOf [(0, ptr bw 0), (6, iV 0), (80, .slice A80 (((l.take (64 - 0)) ++ ((((es.getD k default).l).drop 64).take (((es.getD k default).l.length) - 64))).length) c80), (81, ptr bS k)]) (hOf [(0, ⟨true, bw, 0, 46, [.slice Aw m cw, .bool off, iV (till - 1), iV (torn : Int), iV (wr + 1)], 0⟩), (1, ⟨true, bS, 0, 27, (es).map BG.v, cw - m⟩), (2, pRow ((es.getD k default).b) ((es.getD k default).q) ((es.getD k default).l)), (60, ⟨true, b80, 0, 5, (((l.take (64 - 0)) ++ ((((es.getD k default).l).drop 64).take (((es.getD k default).l.length) - 64)))).map u8V, c80 - (((l.take (64 - 0)) ++ ((((es.getD k default).l).drop 64).take (((es.getD k default).l.length) - 64)))).length⟩)]) := by
     refine hGo ?_
     refine At.bStep [17] (by kernel_rfl) (by simp) ?_
     refine At.bS true (by kernel_rfl) (S_storeM none (f := BG.v) (l := es) (u := (bG A80 b80 c80 ((l.take (64 - 0)) ++ ((((es.getD k default).l).drop 64).take (((es.getD k default).l.length) - 64))))) (k := 1) rfl rfl rfl sz27 rfl rfl rfl OG ?_)
     exact At.into (hGi (hG12_0 A80 b80 c80 g80a g80b)) rfl rfl
    have hG12_2  : G 3 #[true, true, true, true, true, true, true, true, true, true, true, true, true, true, true, false, false, false] (frOf [(0, ptr bw 0), (6, iV 0), (68, .slice Aw m cw), (69, iV i), (70, .slice A64 ((l.take (64 - 0)).length) c64), (79, .slice (cut ((es.getD k default).A) 64 ((es.getD k default).c) 1) (((es.getD k default).l.length) - 64) (((es.getD k default).c) - 64))]) (hOf [(0, ⟨true, bw, 0, 46, [.slice Aw m cw, .bool off, iV (till - 1), iV (torn : Int), iV (wr + 1)], 0⟩), (1, ⟨true, bS, 0, 27, (es).map BG.v, cw - m⟩), (2, pRow ((es.getD k default).b) ((es.getD k default).q) ((es.getD k default).l)), (60, ⟨true, b64, 0, 5, ((l.take (64 - 0))).map u8V, c64 - ((l.take (64 - 0))).length⟩)]) := by
     clear hG12_0
     refine hGo ?_
     refine At.bStep [15] (by kernel_rfl) (by simp) ?_
     refine At.bS true (by kernel_rfl) (S_appendM (some 80) 60 (((l.take (64 - 0)) ++ ((((es.getD k default).l).drop 64).take (((es.getD k default).l.length) - 64)))) (f := u8V) (l := (l.take (64 - 0))) (L := ((((es.getD k default).l).drop 64).take (((es.getD k default).l.length) - 64))) (m := (((es.getD k default).l.length) - 64)) rfl Try.underlying27 Try.underlying27 (.inr ⟨_, rfl⟩) sz5 by5 ze5 rfl rfl (fun h => ⟨g64a h, rfl⟩) LN OG (Src.part (k := 2) (j := 64) (l := ((es.getD k default).l)) rfl (fun h => cut_addr1 ((fun h => BG.adr hxo (by omega)) (by omega)) (by omega)) (fun _ => ⟨rfl, rfl, rfl⟩) OG) (fun _ => rfl) OG OG rfl LN ?_)
     intro A80 b80 c80 g80a g80b
     refine At.bP  16 (some 81) (P_indexAddr_slz (b := bS) (j := k) rfl Try.underlying44 sz27 rfl ((fun h => hAw (by omega)) OG) rfl RO OG) (by kernel_rfl) (by kernel_rfl) ?_
     exact At.into (hGi (hG12_1 A80 b80 c80 g80a g80b)) rfl rfl
    have hG12_3  : G 4 #[true, true, true, false, true, true, true, true, true, true, true, true, true, true, true, false, false, false] (frOf [(0, ptr bw 0), (6, iV 0), (67, ptr bw 0), (69, iV i), (70, .slice A64 ((l.take (64 - 0)).length) c64), (79, .slice (cut ((es.getD k default).A) 64 ((es.getD k default).c) 1) (((es.getD k default).l.length) - 64) (((es.getD k default).c) - 64))]) (hOf [(0, ⟨true, bw, 0, 46, [.slice Aw m cw, .bool off, iV (till - 1), iV (torn : Int), iV (wr + 1)], 0⟩), (1, ⟨true, bS, 0, 27, (es).map BG.v, cw - m⟩), (2, pRow ((es.getD k default).b) ((es.getD k default).q) ((es.getD k default).l)), (60, ⟨true, b64, 0, 5, ((l.take (64 - 0))).map u8V, c64 - ((l.take (64 - 0))).length⟩)]) := by
     clear hG12_0
     refine hGo ?_
     refine At.bStep [3, 15] (by kernel_rfl) (by simp) ?_
     refine ⟨?_, ?_⟩
     ·
      refine At.bSQ (some 68) (Q_loadO (k := 0) rfl rfl Try.underlying44 rfl rfl rfl) ?_
      exact At.into (hGi (hG12_2 )) rfl rfl
     ·
      refine At.bS true (by kernel_rfl) (S_appendM (some 80) 60 (((l.take (64 - 0)) ++ ((((es.getD k default).l).drop 64).take (((es.getD k default).l.length) - 64)))) (f := u8V) (l := (l.take (64 - 0))) (L := ((((es.getD k default).l).drop 64).take (((es.getD k default).l.length) - 64))) (m := (((es.getD k default).l.length) - 64)) rfl Try.underlying27 Try.underlying27 (.inr ⟨_, rfl⟩) sz5 by5 ze5 rfl rfl (fun h => ⟨g64a h, rfl⟩) LN OG (Src.part (k := 2) (j := 64) (l := ((es.getD k default).l)) rfl (fun h => cut_addr1 ((fun h => BG.adr hxo (by omega)) (by omega)) (by omega)) (fun _ => ⟨rfl, rfl, rfl⟩) OG) (fun _ => rfl) OG OG rfl LN ?_)
      intro A80 b80 c80 g80a g80b
      refine At.bQ  3 (some 68) (Q_loadO (k := 0) rfl rfl Try.underlying44 rfl rfl rfl) (by kernel_rfl) (by kernel_rfl) ?_
      refine At.bP  16 (some 81) (P_indexAddr_slz (b := bS) (j := k) rfl Try.underlying44 sz27 rfl ((fun h => hAw (by omega)) OG) rfl RO OG) (by kernel_rfl) (by kernel_rfl) ?_
      exact At.into (hGi (hG12_1 A80 b80 c80 g80a g80b)) rfl rfl
    have hG12_4  : G 5 #[true, true, true, true, true, true, true, true, true, true, true, true, false, true, false, false, false, false] (frOf [(0, ptr bw 0), (6, iV 0), (68, .slice Aw m cw), (69, iV i), (70, .slice A64 ((l.take (64 - 0)).length) c64), (76, ptr bS k), (78, iV 64)]) (hOf [(0, ⟨true, bw, 0, 46, [.slice Aw m cw, .bool off, iV (till - 1), iV (torn : Int), iV (wr + 1)], 0⟩), (1, ⟨true, bS, 0, 27, (es).map BG.v, cw - m⟩), (2, pRow ((es.getD k default).b) ((es.getD k default).q) ((es.getD k default).l)), (60, ⟨true, b64, 0, 5, ((l.take (64 - 0))).map u8V, c64 - ((l.take (64 - 0))).length⟩)]) := by
     clear hG12_0 hG12_1 hG12_3
     refine hGo ?_
     refine At.bStep [12] (by kernel_rfl) (by simp) ?_
     refine At.bSQ (some 77) (Q_loadM (k := 1) (f := BG.v) (l := es) ((default : BG)) rfl rfl Try.underlying27 rfl rfl OG) ?_
     refine At.bP  14 (some 79) (P_slice_sl (l := 64) (h := (es.getD k default).l.length) (m := (es.getD k default).c) rfl Try.underlying27 sz5 rfl ⟨_, _, rfl, by omega⟩ rfl rfl DO DO DO) (by kernel_rfl) (by kernel_rfl) ?_
     exact At.into (hGi (hG12_2 )) rfl rfl
    have hG12_5  : G 6 #[true, true, true, false, true, true, true, true, true, true, true, true, false, true, false, false, false, false] (frOf [(0, ptr bw 0), (6, iV 0), (67, ptr bw 0), (69, iV i), (70, .slice A64 ((l.take (64 - 0)).length) c64), (76, ptr bS k), (78, iV 64)]) (hOf [(0, ⟨true, bw, 0, 46, [.slice Aw m cw, .bool off, iV (till - 1), iV (torn : Int), iV (wr + 1)], 0⟩), (1, ⟨true, bS, 0, 27, (es).map BG.v, cw - m⟩), (2, pRow ((es.getD k default).b) ((es.getD k default).q) ((es.getD k default).l)), (60, ⟨true, b64, 0, 5, ((l.take (64 - 0))).map u8V, c64 - ((l.take (64 - 0))).length⟩)]) := by
     clear hG12_0 hG12_1 hG12_2
     refine hGo ?_
     refine At.bStep [3, 12] (by kernel_rfl) (by simp) ?_
     refine ⟨?_, ?_⟩
     ·
      refine At.bSQ (some 68) (Q_loadO (k := 0) rfl rfl Try.underlying44 rfl rfl rfl) ?_
      exact At.into (hGi (hG12_4 )) rfl rfl
     ·
      refine At.bSQ (some 77) (Q_loadM (k := 1) (f := BG.v) (l := es) ((default : BG)) rfl rfl Try.underlying27 rfl rfl OG) ?_
      refine At.bP  14 (some 79) (P_slice_sl (l := 64) (h := (es.getD k default).l.length) (m := (es.getD k default).c) rfl Try.underlying27 sz5 rfl ⟨_, _, rfl, by omega⟩ rfl rfl DO DO DO) (by kernel_rfl) (by kernel_rfl) ?_
      exact At.into (hGi (hG12_3 )) rfl rfl
    have hG12_6  : G 7 #[true, true, true, true, true, true, true, true, true, false, true, false, false, true, false, false, false, false] (frOf [(0, ptr bw 0), (6, iV 0), (68, .slice Aw m cw), (69, iV i), (70, .slice A64 ((l.take (64 - 0)).length) c64), (73, ptr bw 0), (75, iV i), (78, iV 64)]) (hOf [(0, ⟨true, bw, 0, 46, [.slice Aw m cw, .bool off, iV (till - 1), iV (torn : Int), iV (wr + 1)], 0⟩), (1, ⟨true, bS, 0, 27, (es).map BG.v, cw - m⟩), (2, pRow ((es.getD k default).b) ((es.getD k default).q) ((es.getD k default).l)), (60, ⟨true, b64, 0, 5, ((l.take (64 - 0))).map u8V, c64 - ((l.take (64 - 0))).length⟩)]) := by
     clear hG12_0 hG12_1 hG12_2 hG12_3 hG12_5
     refine hGo ?_
     refine At.bStep [9] (by kernel_rfl) (by simp) ?_
     refine At.bSQ (some 74) (Q_loadO (k := 0) rfl rfl Try.underlying44 rfl rfl rfl) ?_
     refine At.bP  11 (some 76) (P_indexAddr_slz (b := bS) (j := k) rfl Try.underlying44 sz27 rfl ((fun h => hAw (by omega)) OG) rfl RO OG) (by kernel_rfl) (by kernel_rfl) ?_
     exact At.into (hGi (hG12_4 )) rfl rfl
    have hG12_7  : G 8 #[true, true, true, false, true, true, true, true, true, false, true, false, false, true, false, false, false, false] (frOf [(0, ptr bw 0), (6, iV 0), (67, ptr bw 0), (69, iV i), (70, .slice A64 ((l.take (64 - 0)).length) c64), (73, ptr bw 0), (75, iV i), (78, iV 64)]) (hOf [(0, ⟨true, bw, 0, 46, [.slice Aw m cw, .bool off, iV (till - 1), iV (torn : Int), iV (wr + 1)], 0⟩), (1, ⟨true, bS, 0, 27, (es).map BG.v, cw - m⟩), (2, pRow ((es.getD k default).b) ((es.getD k default).q) ((es.getD k default).l)), (60, ⟨true, b64, 0, 5, ((l.take (64 - 0))).map u8V, c64 - ((l.take (64 - 0))).length⟩)]) := by
     clear hG12_0 hG12_1 hG12_2 hG12_3 hG12_4
     refine hGo ?_
     refine At.bStep [3, 9] (by kernel_rfl) (by simp) ?_
     refine ⟨?_, ?_⟩
     ·
      refine At.bSQ (some 68) (Q_loadO (k := 0) rfl rfl Try.underlying44 rfl rfl rfl) ?_
      exact At.into (hGi (hG12_6 )) rfl rfl
     ·
      refine At.bSQ (some 74) (Q_loadO (k := 0) rfl rfl Try.underlying44 rfl rfl rfl) ?_
      refine At.bP  11 (some 76) (P_indexAddr_slz (b := bS) (j := k) rfl Try.underlying44 sz27 rfl ((fun h => hAw (by omega)) OG) rfl RO OG) (by kernel_rfl) (by kernel_rfl) ?_
      exact At.into (hGi (hG12_5 )) rfl rfl
    clear hG12_0 hG12_1 hG12_2 hG12_3 hG12_4 hG12_5 hG12_6
    refine hGo ?_
    refine At.bP  0 (some 65) (P_move rfl rfl) (by kernel_rfl) (by kernel_rfl) ?_
    refine At.bP  1 (some 66) (P_nilCheck rfl rfl) (by kernel_rfl) (by kernel_rfl) ?_
    refine At.bP  2 (some 67) (P_fieldAddr0 (off := 0) rfl Try.underlying46 rfl sz44 rfl rfl) (by kernel_rfl) (by kernel_rfl) ?_
    refine At.bP  4 (some 69) (P_move rfl rfl) (by kernel_rfl) (by kernel_rfl) ?_
    refine At.bP  5 (some 70) (P_move rfl rfl) (by kernel_rfl) (by kernel_rfl) ?_
    refine At.bP  6 (some 71) (P_move rfl rfl) (by kernel_rfl) (by kernel_rfl) ?_
    refine At.bP  7 (some 72) (P_nilCheck rfl rfl) (by kernel_rfl) (by kernel_rfl) ?_
    refine At.bP  8 (some 73) (P_fieldAddr0 (off := 0) rfl Try.underlying46 rfl sz44 rfl rfl) (by kernel_rfl) (by kernel_rfl) ?_
    refine At.bP  10 (some 75) (P_move rfl rfl) (by kernel_rfl) (by kernel_rfl) ?_
    refine At.bP  13 (some 78) (P_move rfl rfl) (by kernel_rfl) (by kernel_rfl) ?_
    exact At.into (hGi (hG12_7 )) rfl rfl
   ·
    rintro fr H ⟨A80, b80, c80, rfl, rfl, g80a, g80b, -⟩
    refine At.next ?_
    refine At.seq ?_
    refine At.seq ?_
    refine At.region ?_
    refine At.p (some 82) (P_move rfl rfl) ?_
    refine At.p (some 83) (P_nilCheck rfl rfl) ?_
    refine At.p (some 84) (P_fieldAddr0 (off := 1) rfl Try.underlying46 rfl sz4 rfl rfl) ?_
    refine At.q (some 85) (Q_loadO (k := 0) rfl rfl Try.underlying4 rfl rfl rfl) ?_
    refine At.nil ?_
    refine At.next ?_
    refine At.cond rfl (fun h85 => by rw [hoff] at h85; cases h85) (fun h85 => ?_)
    refine At.skip ?_
    refine At.next ?_
    refine At.seq ?_
    refine At.region ?_
    refine At.p (some 6) (P_assign rfl rfl) ?_
    refine At.nil ?_
    refine At.next ?_
    refine At.ret ?_
    have hz : decide (till = 0) = false := decide_eq_false (by omega)
    have hm : (till - 1) = max (till - 1) (-1) := by omega
    have he : wrE till = 0 := by unfold wrE; rw [if_neg (by omega)]
    have hw : wrL till torn l (es.getD k default).l = ((l.take (64 - 0)) ++ ((((es.getD k default).l).drop 64).take (((es.getD k default).l.length) - 64))) := by unfold wrL; rw [if_neg (by omega)]; exact hdz
    refine At.give (.inl rfl) [0, 1, 60] (rows' := [_, _, _]) (vs := [_]) rfl ⟨rfl, trivial⟩ rfl (by simp) (by simp) ?_
    exact ⟨bG A80 b80 c80 ((l.take (64 - 0)) ++ ((((es.getD k default).l).drop 64).take (((es.getD k default).l.length) - 64))), bG_ok (fun h => g80a h) (by omega), hw.symm, by rw [he]; rfl, by rw [hz, ← hm, hoff]; rfl⟩
  · -- cond 52 f
   have e52 : ¬ till ≥ 0 := of_decide_eq_false h52
   refine At.skip ?_
   refine At.next ?_
   refine At.seq ?_
   refine At.region ?_
   refine At.s (S_buildSlice0 (some 60) 60 rfl Try.underlying27 sz5 (fun b60 => ?_))
   refine At.p (some 61) (P_move rfl rfl) ?_
   refine At.p (some 62) (P_move rfl rfl) ?_
   refine At.p (some 63) (P_slice_sl (l := 0) (h := 64) (m := c) rfl Try.underlying27 sz5 rfl rfl ⟨_, _, rfl, by omega⟩ rfl DO DO DO) ?_
   refine At.s (S_appendM (some 64) 60 ((l.take (64 - 0))) (f := u8V) (l := []) (L := (l.take (64 - 0))) (m := (64 - 0)) rfl Try.underlying27 Try.underlying27 (.inr ⟨_, rfl⟩) sz5 by5 ze5 rfl rfl (fun h => ⟨rfl, rfl⟩) LN OG (Src.part (k := 3) (j := 0) (l := l) rfl (fun h => cut_zero (hA (by omega))) (fun _ => ⟨rfl, rfl, (Nat.add_zero _)⟩) OG) (fun _ => rfl) OG OG rfl LN ?_)
   intro A64 b64 c64 g64a g64b
   refine At.p (some 8) (P_assign rfl rfl) ?_
   refine At.nil ?_
   refine At.next ?_
   refine At.seq ?_
   have hxc := BG.le hxo
   have hdz := wr_f (l := l) (o := (es.getD k default).l) (by omega) hxl
   have hdy := wr_t (n := torn) (l := l) (o := (es.getD k default).l)
   have hok77 : BG.ok (es.getD k default) := hes _ (getDG_mem OG)
   refine At.bBruteG [15, 17] (fun fr H => ∃ (A80 : Option Addr) (b80 c80 : Nat), fr = frOf [(0, ptr bw 0), (6, iV 0)] ∧ H = hOf [(0, ⟨true, bw, 0, 46, [.slice Aw m cw, .bool off, iV till, iV (torn : Int), iV (wr + 1)], 0⟩), (1, ⟨true, bS, 0, 27, ((es.set k (bG A80 b80 c80 ((l.take (64 - 0)) ++ ((((es.getD k default).l).drop 64).take (((es.getD k default).l.length) - 64)))))).map BG.v, cw - m⟩), (2, pRow ((es.getD k default).b) ((es.getD k default).q) ((es.getD k default).l)), (60, ⟨true, b80, 0, 5, (((l.take (64 - 0)) ++ ((((es.getD k default).l).drop 64).take (((es.getD k default).l.length) - 64)))).map u8V, c80 - (((l.take (64 - 0)) ++ ((((es.getD k default).l).drop 64).take (((es.getD k default).l.length) - 64)))).length⟩)] ∧ (0 < c80 → A80 = some ⟨b80, 0, none⟩) ∧ (((l.take (64 - 0)) ++ ((((es.getD k default).l).drop 64).take (((es.getD k default).l.length) - 64))).length ≤ c80) ∧ True) (by kernel_rfl) ?_ ?_
   ·
    intro Kb hKb G hGi hGo
    have hG12_0 (A80 : Option Addr) (b80 c80 : Nat) (g80a : 0 < c80 → A80 = some ⟨b80, 0, none⟩) (g80b : ((l.take (64 - 0)) ++ ((((es.getD k default).l).drop 64).take (((es.getD k default).l.length) - 64))).length ≤ c80) : G 0 #[true, true, true, true, true, true, true, true, true, true, true, true, true, true, true, true, true, true] (frOf [(0, ptr bw 0), (6, iV 0)]) (hOf [(0, ⟨true, bw, 0, 46, [.slice Aw m cw, .bool off, iV till, iV (torn : Int), iV (wr + 1)], 0⟩), (1, ⟨true, bS, 0, 27, ((es.set k (bG A80 b80 c80 ((l.take (64 - 0)) ++ ((((es.getD k default).l).drop 64).take (((es.getD k default).l.length) - 64)))))).map BG.v, cw - m⟩), (2, pRow ((es.getD k default).b) ((es.getD k default).q) ((es.getD k default).l)), (60, ⟨true, b80, 0, 5, (((l.take (64 - 0)) ++ ((((es.getD k default).l).drop 64).take (((es.getD k default).l.length) - 64)))).map u8V, c80 - (((l.take (64 - 0)) ++ ((((es.getD k default).l).drop 64).take (((es.getD k default).l.length) - 64)))).length⟩)]) := by
     refine hGo ?_
     refine At.bEnd (by kernel_rfl) ?_
     refine At.next ?_
     exact hKb _ _ ⟨A80, b80, c80, rfl, rfl, g80a, g80b, trivial⟩
    have hG12_1 (A80 : Option Addr) (b80 c80 : Nat) (g80a : 0 < c80 → A80 = some ⟨b80, 0, none⟩) (g80b : ((l.take (64 - 0)) ++ ((((es.getD k default).l).drop 64).take (((es.getD k default).l.length) - 64))).length ≤ c80) : G 1 #[true, true, true, true, true, true, true, true, true, true, true, true, true, true, true, true, true, false] (frOf [(0, ptr bw 0), (6, iV 0), (80, .slice A80 (((l.take (64 - 0)) ++ ((((es.getD k default).l).drop 64).take (((es.getD k default).l.length) - 64))).length) c80), (81, ptr bS k)]) (hOf [(0, ⟨true, bw, 0, 46, [.slice Aw m cw, .bool off, iV till, iV (torn : Int), iV (wr + 1)], 0⟩), (1, ⟨true, bS, 0, 27, (es).map BG.v, cw - m⟩), (2, pRow ((es.getD k default).b) ((es.getD k default).q) ((es.getD k default).l)), (60, ⟨true, b80, 0, 5, (((l.take (64 - 0)) ++ ((((es.getD k default).l).drop 64).take (((es.getD k default).l.length) - 64)))).map u8V, c80 - (((l.take (64 - 0)) ++ ((((es.getD k default).l).drop 64).take (((es.getD k default).l.length) - 64)))).length⟩)]) := by
     refine hGo ?_
     refine At.bStep [17] (by kernel_rfl) (by simp) ?_
     refine At.bS true (by kernel_rfl) (S_storeM none (f := BG.v) (l := es) (u := (bG A80 b80 c80 ((l.take (64 - 0)) ++ ((((es.getD k default).l).drop 64).take (((es.getD k default).l.length) - 64))))) (k := 1) rfl rfl rfl sz27 rfl rfl rfl OG ?_)
     exact At.into (hGi (hG12_0 A80 b80 c80 g80a g80b)) rfl rfl
    have hG12_2  : G 3 #[true, true, true, true, true, true, true, true, true, true, true, true, true, true, true, false, false, false] (frOf [(0, ptr bw 0), (6, iV 0), (68, .slice Aw m cw), (69, iV i), (70, .slice A64 ((l.take (64 - 0)).length) c64), (79, .slice (cut ((es.getD k default).A) 64 ((es.getD k default).c) 1) (((es.getD k default).l.length) - 64) (((es.getD k default).c) - 64))]) (hOf [(0, ⟨true, bw, 0, 46, [.slice Aw m cw, .bool off, iV till, iV (torn : Int), iV (wr + 1)], 0⟩), (1, ⟨true, bS, 0, 27, (es).map BG.v, cw - m⟩), (2, pRow ((es.getD k default).b) ((es.getD k default).q) ((es.getD k default).l)), (60, ⟨true, b64, 0, 5, ((l.take (64 - 0))).map u8V, c64 - ((l.take (64 - 0))).length⟩)]) := by
     clear hG12_0
     refine hGo ?_
     refine At.bStep [15] (by kernel_rfl) (by simp) ?_
     refine At.bS true (by kernel_rfl) (S_appendM (some 80) 60 (((l.take (64 - 0)) ++ ((((es.getD k default).l).drop 64).take (((es.getD k default).l.length) - 64)))) (f := u8V) (l := (l.take (64 - 0))) (L := ((((es.getD k default).l).drop 64).take (((es.getD k default).l.length) - 64))) (m := (((es.getD k default).l.length) - 64)) rfl Try.underlying27 Try.underlying27 (.inr ⟨_, rfl⟩) sz5 by5 ze5 rfl rfl (fun h => ⟨g64a h, rfl⟩) LN OG (Src.part (k := 2) (j := 64) (l := ((es.getD k default).l)) rfl (fun h => cut_addr1 ((fun h => BG.adr hxo (by omega)) (by omega)) (by omega)) (fun _ => ⟨rfl, rfl, rfl⟩) OG) (fun _ => rfl) OG OG rfl LN ?_)
     intro A80 b80 c80 g80a g80b
     refine At.bP  16 (some 81) (P_indexAddr_slz (b := bS) (j := k) rfl Try.underlying44 sz27 rfl ((fun h => hAw (by omega)) OG) rfl RO OG) (by kernel_rfl) (by kernel_rfl) ?_
     exact At.into (hGi (hG12_1 A80 b80 c80 g80a g80b)) rfl rfl
    have hG12_3  : G 4 #[true, true, true, false, true, true, true, true, true, true, true, true, true, true, true, false, false, false] (frOf [(0, ptr bw 0), (6, iV 0), (67, ptr bw 0), (69, iV i), (70, .slice A64 ((l.take (64 - 0)).length) c64), (79, .slice (cut ((es.getD k default).A) 64 ((es.getD k default).c) 1) (((es.getD k default).l.length) - 64) (((es.getD k default).c) - 64))]) (hOf [(0, ⟨true, bw, 0, 46, [.slice Aw m cw, .bool off, iV till, iV (torn : Int), iV (wr + 1)], 0⟩), (1, ⟨true, bS, 0, 27, (es).map BG.v, cw - m⟩), (2, pRow ((es.getD k default).b) ((es.getD k default).q) ((es.getD k default).l)), (60, ⟨true, b64, 0, 5, ((l.take (64 - 0))).map u8V, c64 - ((l.take (64 - 0))).length⟩)]) := by
     clear hG12_0
     refine hGo ?_
     refine At.bStep [3, 15] (by kernel_rfl) (by simp) ?_
     refine ⟨?_, ?_⟩
     ·
      refine At.bSQ (some 68) (Q_loadO (k := 0) rfl rfl Try.underlying44 rfl rfl rfl) ?_
      exact At.into (hGi (hG12_2 )) rfl rfl
     ·
      refine At.bS true (by kernel_rfl) (S_appendM (some 80) 60 (((l.take (64 - 0)) ++ ((((es.getD k default).l).drop 64).take (((es.getD k default).l.length) - 64)))) (f := u8V) (l := (l.take (64 - 0))) (L := ((((es.getD k default).l).drop 64).take (((es.getD k default).l.length) - 64))) (m := (((es.getD k default).l.length) - 64)) rfl Try.underlying27 Try.underlying27 (.inr ⟨_, rfl⟩) sz5 by5 ze5 rfl rfl (fun h => ⟨g64a h, rfl⟩) LN OG (Src.part (k := 2) (j := 64) (l := ((es.getD k default).l)) rfl (fun h => cut_addr1 ((fun h => BG.adr hxo (by omega)) (by omega)) (by omega)) (fun _ => ⟨rfl, rfl, rfl⟩) OG) (fun _ => rfl) OG OG rfl LN ?_)
      intro A80 b80 c80 g80a g80b
      refine At.bQ  3 (some 68) (Q_loadO (k := 0) rfl rfl Try.underlying44 rfl rfl rfl) (by kernel_rfl) (by kernel_rfl) ?_
      refine At.bP  16 (some 81) (P_indexAddr_slz (b := bS) (j := k) rfl Try.underlying44 sz27 rfl ((fun h => hAw (by omega)) OG) rfl RO OG) (by kernel_rfl) (by kernel_rfl) ?_
      exact At.into (hGi (hG12_1 A80 b80 c80 g80a g80b)) rfl rfl
    have hG12_4  : G 5 #[true, true, true, true, true, true, true, true, true, true, true, true, false, true, false, false, false, false] (frOf [(0, ptr bw 0), (6, iV 0), (68, .slice Aw m cw), (69, iV i), (70, .slice A64 ((l.take (64 - 0)).length) c64), (76, ptr bS k), (78, iV 64)]) (hOf [(0, ⟨true, bw, 0, 46, [.slice Aw m cw, .bool off, iV till, iV (torn : Int), iV (wr + 1)], 0⟩), (1, ⟨true, bS, 0, 27, (es).map BG.v, cw - m⟩), (2, pRow ((es.getD k default).b) ((es.getD k default).q) ((es.getD k default).l)), (60, ⟨true, b64, 0, 5, ((l.take (64 - 0))).map u8V, c64 - ((l.take (64 - 0))).length⟩)]) := by
     clear hG12_0 hG12_1 hG12_3
     refine hGo ?_
     refine At.bStep [12] (by kernel_rfl) (by simp) ?_
     refine At.bSQ (some 77) (Q_loadM (k := 1) (f := BG.v) (l := es) ((default : BG)) rfl rfl Try.underlying27 rfl rfl OG) ?_
     refine At.bP  14 (some 79) (P_slice_sl (l := 64) (h := (es.getD k default).l.length) (m := (es.getD k default).c) rfl Try.underlying27 sz5 rfl ⟨_, _, rfl, by omega⟩ rfl rfl DO DO DO) (by kernel_rfl) (by kernel_rfl) ?_
     exact At.into (hGi (hG12_2 )) rfl rfl
    have hG12_5  : G 6 #[true, true, true, false, true, true, true, true, true, true, true, true, false, true, false, false, false, false] (frOf [(0, ptr bw 0), (6, iV 0), (67, ptr bw 0), (69, iV i), (70, .slice A64 ((l.take (64 - 0)).length) c64), (76, ptr bS k), (78, iV 64)]) (hOf [(0, ⟨true, bw, 0, 46, [.slice Aw m cw, .bool off, iV till, iV (torn : Int), iV (wr + 1)], 0⟩), (1, ⟨true, bS, 0, 27, (es).map BG.v, cw - m⟩), (2, pRow ((es.getD k default).b) ((es.getD k default).q) ((es.getD k default).l)), (60, ⟨true, b64, 0, 5, ((l.take (64 - 0))).map u8V, c64 - ((l.take (64 - 0))).length⟩)]) := by
     clear hG12_0 hG12_1 hG12_2
     refine hGo ?_
     refine At.bStep [3, 12] (by kernel_rfl) (by simp) ?_
     refine ⟨?_, ?_⟩
     ·
      refine At.bSQ (some 68) (Q_loadO (k := 0) rfl rfl Try.underlying44 rfl rfl rfl) ?_
      exact At.into (hGi (hG12_4 )) rfl rfl
     ·
      refine At.bSQ (some 77) (Q_loadM (k := 1) (f := BG.v) (l := es) ((default : BG)) rfl rfl Try.underlying27 rfl rfl OG) ?_
      refine At.bP  14 (some 79) (P_slice_sl (l := 64) (h := (es.getD k default).l.length) (m := (es.getD k default).c) rfl Try.underlying27 sz5 rfl ⟨_, _, rfl, by omega⟩ rfl rfl DO DO DO) (by kernel_rfl) (by kernel_rfl) ?_
      exact At.into (hGi (hG12_3 )) rfl rfl
    have hG12_6  : G 7 #[true, true, true, true, true, true, true, true, true, false, true, false, false, true, false, false, false, false] (frOf [(0, ptr bw 0), (6, iV 0), (68, .slice Aw m cw), (69, iV i), (70, .slice A64 ((l.take (64 - 0)).length) c64), (73, ptr bw 0), (75, iV i), (78, iV 64)]) (hOf [(0, ⟨true, bw, 0, 46, [.slice Aw m cw, .bool off, iV till, iV (torn : Int), iV (wr + 1)], 0⟩), (1, ⟨true, bS, 0, 27, (es).map BG.v, cw - m⟩), (2, pRow ((es.getD k default).b) ((es.getD k default).q) ((es.getD k default).l)), (60, ⟨true, b64, 0, 5, ((l.take (64 - 0))).map u8V, c64 - ((l.take (64 - 0))).length⟩)]) := by
     clear hG12_0 hG12_1 hG12_2 hG12_3 hG12_5
     refine hGo ?_
     refine At.bStep [9] (by kernel_rfl) (by simp) ?_
     refine At.bSQ (some 74) (Q_loadO (k := 0) rfl rfl Try.underlying44 rfl rfl rfl) ?_
     refine At.bP  11 (some 76) (P_indexAddr_slz (b := bS) (j := k) rfl Try.underlying44 sz27 rfl ((fun h => hAw (by omega)) OG) rfl RO OG) (by kernel_rfl) (by kernel_rfl) ?_
     exact At.into (hGi (hG12_4 )) rfl rfl
    have hG12_7  : G 8 #[true, true, true, false, true, true, true, true, true, false, true, false, false, true, false, false, false, false] (frOf [(0, ptr bw 0), (6, iV 0), (67, ptr bw 0), (69, iV i), (70, .slice A64 ((l.take (64 - 0)).length) c64), (73, ptr bw 0), (75, iV i), (78, iV 64)]) (hOf [(0, ⟨true, bw, 0, 46, [.slice Aw m cw, .bool off, iV till, iV (torn : Int), iV (wr + 1)], 0⟩), (1, ⟨true, bS, 0, 27, (es).map BG.v, cw - m⟩), (2, pRow ((es.getD k default).b) ((es.getD k default).q) ((es.getD k default).l)), (60, ⟨true, b64, 0, 5, ((l.take (64 - 0))).map u8V, c64 - ((l.take (64 - 0))).length⟩)]) := by
     clear hG12_0 hG12_1 hG12_2 hG12_3 hG12_4
     refine hGo ?_
     refine At.bStep [3, 9] (by kernel_rfl) (by simp) ?_
     refine ⟨?_, ?_⟩
     ·
      refine At.bSQ (some 68) (Q_loadO (k := 0) rfl rfl Try.underlying44 rfl rfl rfl) ?_
      exact At.into (hGi (hG12_6 )) rfl rfl
     ·
      refine At.bSQ (some 74) (Q_loadO (k := 0) rfl rfl Try.underlying44 rfl rfl rfl) ?_
      refine At.bP  11 (some 76) (P_indexAddr_slz (b := bS) (j := k) rfl Try.underlying44 sz27 rfl ((fun h => hAw (by omega)) OG) rfl RO OG) (by kernel_rfl) (by kernel_rfl) ?_
      exact At.into (hGi (hG12_5 )) rfl rfl
    clear hG12_0 hG12_1 hG12_2 hG12_3 hG12_4 hG12_5 hG12_6
    refine hGo ?_
    refine At.bP  0 (some 65) (P_move rfl rfl) (by kernel_rfl) (by kernel_rfl) ?_
    refine At.bP  1 (some 66) (P_nilCheck rfl rfl) (by kernel_rfl) (by kernel_rfl) ?_
    refine At.bP  2 (some 67) (P_fieldAddr0 (off := 0) rfl Try.underlying46 rfl sz44 rfl rfl) (by kernel_rfl) (by kernel_rfl) ?_
    refine At.bP  4 (some 69) (P_move rfl rfl) (by kernel_rfl) (by kernel_rfl) ?_
    refine At.bP  5 (some 70) (P_move rfl rfl) (by kernel_rfl) (by kernel_rfl) ?_
    refine At.bP  6 (some 71) (P_move rfl rfl) (by kernel_rfl) (by kernel_rfl) ?_
    refine At.bP  7 (some 72) (P_nilCheck rfl rfl) (by kernel_rfl) (by kernel_rfl) ?_
    refine At.bP  8 (some 73) (P_fieldAddr0 (off := 0) rfl Try.underlying46 rfl sz44 rfl rfl) (by kernel_rfl) (by kernel_rfl) ?_
    refine At.bP  10 (some 75) (P_move rfl rfl) (by kernel_rfl) (by kernel_rfl) ?_
    refine At.bP  13 (some 78) (P_move rfl rfl) (by kernel_rfl) (by kernel_rfl) ?_
    exact At.into (hGi (hG12_7 )) rfl rfl
   ·
    rintro fr H ⟨A80, b80, c80, rfl, rfl, g80a, g80b, -⟩
    refine At.next ?_
    refine At.seq ?_
    refine At.seq ?_
    refine At.region ?_
    refine At.p (some 82) (P_move rfl rfl) ?_
    refine At.p (some 83) (P_nilCheck rfl rfl) ?_
    refine At.p (some 84) (P_fieldAddr0 (off := 1) rfl Try.underlying46 rfl sz4 rfl rfl) ?_
    refine At.q (some 85) (Q_loadO (k := 0) rfl rfl Try.underlying4 rfl rfl rfl) ?_
    refine At.nil ?_
    refine At.next ?_
    refine At.cond rfl (fun h85 => by rw [hoff] at h85; cases h85) (fun h85 => ?_)
    refine At.skip ?_
    refine At.next ?_
    refine At.seq ?_
    refine At.region ?_
    refine At.p (some 6) (P_assign rfl rfl) ?_
    refine At.nil ?_
    refine At.next ?_
    refine At.ret ?_
    have hz : decide (till = 0) = false := decide_eq_false (by omega)
    have hm : till = max (till - 1) (-1) := by omega
    have he : wrE till = 0 := by unfold wrE; rw [if_neg (by omega)]
    have hw : wrL till torn l (es.getD k default).l = ((l.take (64 - 0)) ++ ((((es.getD k default).l).drop 64).take (((es.getD k default).l.length) - 64))) := by unfold wrL; rw [if_neg (by omega)]; exact hdz
    refine At.give (.inl rfl) [0, 1, 60] (rows' := [_, _, _]) (vs := [_]) rfl ⟨rfl, trivial⟩ rfl (by simp) (by simp) ?_
    exact ⟨bG A80 b80 c80 ((l.take (64 - 0)) ++ ((((es.getD k default).l).drop 64).take (((es.getD k default).l.length) - 64))), bG_ok (fun h => g80a h) (by omega), hw.symm, by rw [he]; rfl, by rw [hz, ← hm, hoff]; rfl⟩

set_option maxHeartbeats 600000 in
theorem r_New {n : Nat} (hn : n ≤ 512) :
  Con Try.prog 20 [iV (n : Int)] [] (fun v rs => ∃ (b' : Nat) (es : List BG) (A' : Option Addr) (bS' c' : Nat), (0 < c' → A' = some ⟨bS', 0, none⟩) ∧ es.length ≤ c' ∧ es.length = n ∧ (∀ e ∈ es, e.ok) ∧ (∀ e ∈ es, e.l = List.replicate 64 0#8) ∧ v = ptr b' 0 ∧ rs = [⟨true, b', 0, 46, [.slice A' es.length c', .bool false, iV (-1), iV 0, iV 0], 0⟩, ⟨true, bS', 0, 27, es.map BG.v, c' - es.length⟩] ++ es.map (BG.row 5)) := by
 refine Con.enter Try.func20 Try.ntmps20 (Nat.le_of_ble_eq_true rfl) rfl fun w => ?_
 refine At.seq ?_
 refine At.region ?_
 refine At.p (some 2) (P_assign rfl rfl) ?_
 refine At.nil ?_
 refine At.next ?_
 refine At.seq ?_
 refine At.region ?_
 refine At.p (some 5) (P_build_struct (parts := _) (vs := [(2, _)]) rfl Try.underlying46 ze46 pl46 rfl rfl) ?_
 refine At.s (S_box (some 6) 6 (zs := [.slice none 0 0, .bool false, iV (-1), iV 0, iV 0]) rfl rfl rfl (fun b6 => ?_))
 refine At.empty 54 0 27 ?_
 refine At.toM [(0, iV (n : Int)), (2, .pointer none), (5, .agg ([.slice none 0 0, .bool false, iV (-1), iV 0, iV 0]).toArray), (6, ptr b6 0)] [(6, ⟨true, b6, 0, 46, [.slice none 0 0, .bool false, iV (-1), iV 0, iV 0], 0⟩), (54, ⟨true, 0, 0, 27, (([] : List BG)).map BG.v, 0⟩)] [] (AllL.cons_ rfl (AllL.cons_ rfl (AllL.cons_ rfl (AllL.cons_ rfl trivial)))) (AllL.cons_ rfl (AllL.cons_ rfl trivial)) trivial ?_
 refine At.famNew 100000 (fun i => (([] : List BG).getD i default).row 5) ?_
 refine At.p (some 3) (P_assign rfl rfl) ?_
 refine At.nil ?_
 refine At.next ?_
 refine At.seq ?_
 refine At.seq ?_
 refine At.region ?_
 refine At.p (some 4) (P_assign rfl rfl) ?_
 refine At.nil ?_
 refine At.next ?_
 refine At.block ?_
 refine At.loopx (I := fun m fr H => ∃ (es : List BG) (A2 : Option Addr) (b2 : Nat) (c2 : Nat), m = n - es.length ∧ fr = frOf [(0, iV (n : Int)), (2, .pointer none), (3, ptr b6 0), (4, iV (es.length : Int)), (5, .agg ([.slice none 0 0, .bool false, iV (-1), iV 0, iV 0]).toArray), (6, ptr b6 0)] ∧ H = famsOf (hOf [(6, ⟨true, b6, 0, 46, [.slice A2 es.length c2, .bool false, iV (-1), iV 0, iV 0], 0⟩), (54, ⟨true, b2, 0, 27, (es).map BG.v, c2 - (es).length⟩)]) [famG 100000 5 es] ∧ (0 < c2 → A2 = some ⟨b2, 0, none⟩) ∧ (es.length ≤ c2) ∧ (∀ e ∈ es, e.ok) ∧ (∀ e ∈ es, e.l = List.replicate 64 0#8) ∧ (es.length ≤ n)) ?_ ?_
 ·
  intro Kc0 hKc0
  refine At.toM [(0, _), (2, _), (3, _), (4, _), (5, _), (6, _)] [(6, _), (54, _)] [famG 100000 5 ([] : List BG)] (AllL.cons_ (rfl) (AllL.cons_ (rfl) (AllL.cons_ (rfl) (AllL.cons_ (rfl) (AllL.cons_ (rfl) (AllL.cons_ (rfl) trivial)))))) (AllL.cons_ (rfl) (AllL.cons_ (rfl) trivial)) (AllL.cons_ FK trivial) ?_
  exact hKc0 _ _ _ ⟨([] : List BG), none, 0, 0, rfl, rfl, rfl, (fun h => absurd h (Nat.lt_irrefl 0)), (Nat.le_refl _), (fun e he => nomatch he), (fun e he => nomatch he), (Nat.zero_le _)⟩
 ·
  rintro m fr H ⟨es, A2, b2, c2, rfl, rfl, rfl, hA2, hc2, hes, hm, hk⟩ Kc0 hKc0
  refine At.seq ?_
  refine At.seq ?_
  refine At.region ?_
  refine At.p (some 7) (P_move rfl rfl) ?_
  refine At.p (some 8) (P_move rfl rfl) ?_
  refine At.p (some 9) (P_cmp rfl rfl rfl rfl rfl rfl) ?_
  refine At.nil ?_
  refine At.next ?_
  refine At.cond rfl (fun h9 => ?_) (fun h9 => ?_)
  · -- cond 9 t
   have e9 : (es.length : Int) < (n : Int) := of_decide_eq_true h9
   refine At.skip ?_
   refine At.next ?_
   refine At.seq ?_
   refine At.block ?_
   refine At.draws 8 [7] [.q true [0, 1, 2, 3], .q false [4], .e false 5, .e false 6, .e true 7] (by kernel_rfl) (by kernel_rfl) ?_
   refine At.wp (some 12) (P_move rfl rfl) ?_
   refine At.wp (some 13) (P_move rfl rfl) ?_
   refine At.wp (some 14) (P_nilCheck rfl rfl) ?_
   refine At.wp (some 15) (P_fieldAddr0 (off := 0) rfl Try.underlying46 rfl sz44 rfl rfl) ?_
   refine At.wqn ?_
   refine At.wq (some 16) (Q_loadO (k := 6) rfl rfl Try.underlying44 rfl rfl rfl) ?_
   refine At.wqn ?_
   refine At.we ?_
   refine S_makeN (some 17) 17 (n := 64) (cs := ((List.replicate 64 0#8)).map u8V) rfl Try.underlying27 sz5 by5 ze5 rfl rfl (by omega) (by omega) (by omega) (by omega) ((made_one (n := 64) (by omega)).trans (by rw [List.map_replicate]; rfl)) (fun b17 => ?_)
   refine At.we ?_
   refine S_buildSliceV (some 18) 18 (([(bG (some ⟨b17, 0, none⟩) b17 64 (List.replicate 64 0#8))]).map BG.v) rfl Try.underlying44 sz27 ze27 rfl rfl (by decide) (by decide) rfl rfl (fun b18 => ?_)
   refine At.we ?_
   refine S_appendM (some 19) 54 ((es ++ [(bG (some ⟨b17, 0, none⟩) b17 64 (List.replicate 64 0#8))])) (f := BG.v) (l := es) (L := [(bG (some ⟨b17, 0, none⟩) b17 64 (List.replicate 64 0#8))]) (m := 1) rfl Try.underlying44 Try.underlying44 (.inr ⟨_, rfl⟩) sz27 by27 ze27 rfl rfl (fun h => ⟨hA2 h, rfl⟩) LN OG (Src.all (k := 18) (l := [(bG (some ⟨b17, 0, none⟩) b17 64 (List.replicate 64 0#8))]) rfl (fun _ => rfl) (fun _ => ⟨rfl, rfl, rfl⟩) LN) (fun _ => rfl) OG OG rfl LN ?_
   intro A19 b19 c19 g19a g19b
   refine At.wt rfl ?_
   refine At.p (some 20) (P_nilCheck rfl rfl) ?_
   refine At.p (some 21) (P_fieldAddr0 (off := 0) rfl Try.underlying46 rfl sz44 rfl rfl) ?_
   refine At.s (S_store none (k := 6) rfl rfl rfl sz44 rfl rfl rfl LN ?_)
   refine At.nil ?_
   refine At.inb_n ?_
   refine At.next ?_
   refine At.region ?_
   refine At.p (some 10) (P_move rfl rfl) ?_
   refine At.p (some 11) (P_add_i rfl rfl rfl (by omega)) ?_
   refine At.p (some 4) (P_assign rfl rfl) ?_
   refine At.nil ?_
   refine At.next ?_
   refine At.toM [(0, iV (n : Int)), (2, .pointer none), (3, ptr b6 0), (4, iV ((es.length : Int) + 1)), (5, .agg ([.slice none 0 0, .bool false, iV (-1), iV 0, iV 0]).toArray), (6, ptr b6 0), (7, iV (es.length : Int)), (8, iV (n : Int)), (9, .bool (decide ((es.length : Int) < (n : Int)))), (10, iV (es.length : Int)), (11, iV ((es.length : Int) + 1)), (12, ptr b6 0), (13, ptr b6 0), (14, ptr b6 0), (15, ptr b6 0), (16, .slice A2 es.length c2), (17, .slice (some ⟨b17, 0, none⟩) 64 64), (18, .slice (some ⟨b18, 0, none⟩) 1 1), (19, .slice A19 ((es ++ [(bG (some ⟨b17, 0, none⟩) b17 64 (List.replicate 64 0#8))]).length) c19), (20, ptr b6 0), (21, ptr b6 0)] [(17, ⟨true, b17, 0, 5, ((List.replicate 64 0#8)).map u8V, 0⟩), (6, ⟨true, b6, 0, 46, [.slice A19 ((es ++ [(bG (some ⟨b17, 0, none⟩) b17 64 (List.replicate 64 0#8))]).length) c19, .bool false, iV (-1), iV 0, iV 0], 0⟩), (18, ⟨true, b18, 0, 27, ([(bG (some ⟨b17, 0, none⟩) b17 64 (List.replicate 64 0#8))]).map BG.v, 0⟩), (54, ⟨true, b19, 0, 27, ((es ++ [(bG (some ⟨b17, 0, none⟩) b17 64 (List.replicate 64 0#8))])).map BG.v, c19 - ((es ++ [(bG (some ⟨b17, 0, none⟩) b17 64 (List.replicate 64 0#8))])).length⟩)] [famG 100000 5 es] (AllL.cons_ rfl (AllL.cons_ rfl (AllL.cons_ rfl (AllL.cons_ rfl (AllL.cons_ rfl (AllL.cons_ rfl (AllL.cons_ rfl (AllL.cons_ rfl (AllL.cons_ rfl (AllL.cons_ rfl (AllL.cons_ rfl (AllL.cons_ rfl (AllL.cons_ rfl (AllL.cons_ rfl (AllL.cons_ rfl (AllL.cons_ rfl (AllL.cons_ rfl (AllL.cons_ rfl (AllL.cons_ rfl (AllL.cons_ rfl (AllL.cons_ rfl trivial))))))))))))))))))))) (AllL.cons_ rfl (AllL.cons_ rfl (AllL.cons_ rfl (AllL.cons_ rfl trivial)))) (AllL.cons_ FK trivial) ?_
   refine At.famPushG (bG (some ⟨b17, 0, none⟩) b17 64 (List.replicate 64 0#8)) (AllL.cons_ rfl (AllL.cons_ rfl (AllL.cons_ rfl trivial))) rfl trivial ?_
   refine At.toM [(0, _), (2, _), (3, _), (4, iV ((es ++ [(bG (some ⟨b17, 0, none⟩) b17 64 (List.replicate 64 0#8))]).length : Int)), (5, _), (6, _)] [(6, _), (54, _)] [famG 100000 5 (es ++ [(bG (some ⟨b17, 0, none⟩) b17 64 (List.replicate 64 0#8))])] (AllL.cons_ (rfl) (AllL.cons_ (rfl) (AllL.cons_ (rfl) (AllL.cons_ ((congrArg (fun z : Int => some (iV z)) (by simp))) (AllL.cons_ (rfl) (AllL.cons_ (rfl) trivial)))))) (AllL.cons_ (rfl) (AllL.cons_ (rfl) trivial)) (AllL.cons_ FK trivial) ?_
   exact hKc0 _ _ _ (by simp only [List.length_append, List.length_singleton]; omega) ⟨(es ++ [(bG (some ⟨b17, 0, none⟩) b17 64 (List.replicate 64 0#8))]), A19, b19, c19, rfl, rfl, rfl, g19a, g19b, (BG.okP hes (bG_ok (fun _ => rfl) (by simp))), (fun e he => by rcases List.mem_append.1 he with h | h; exact hm e h; rw [List.mem_singleton.1 h]), (by rw [List.length_append, List.length_singleton]; omega)⟩
  · -- cond 9 f
   have e9 : ¬ (es.length : Int) < (n : Int) := of_decide_eq_false h9
   refine At.exit ?_
   refine At.thn_e ?_
   refine At.thn_e ?_
   refine At.inb_hit ?_
   refine At.next ?_
   refine At.seq ?_
   refine At.region ?_
   refine At.p (some 22) (P_move rfl rfl) ?_
   refine At.p (some 2) (P_assign rfl rfl) ?_
   refine At.nil ?_
   refine At.next ?_
   refine At.ret ?_
   refine At.giveV (.inl rfl) ([6, 54] ++ famK 100000 es.length) (rows' := [_, _] ++ es.map (BG.row 5)) (ResV.tmps (vs := [_]) rfl ⟨rfl, trivial⟩) (give_famG rfl FK) (famK_app (by simp) ⟨rfl, rfl⟩) (own_famG (by simp)) ?_
   exact ⟨b6, es, A2, b2, c2, hA2, hc2, by omega, hes, hm, rfl, rfl⟩


end Go.Proofs.Ytdingfinclcbgaa
