import Derived.Test.YtihciioopdalnaaXT2
import Derived.Test.YtihciioopdalnaaXS2
import Derived.Test.YtihciioopdalnaaG1
namespace Go.Proofs.Ytihciioopdalnaa
set_option maxRecDepth 20000
set_option linter.unusedVariables false
set_option linter.unusedSimpArgs false
open Go.SE Go.RowKit
def beI (w : Nat) (n : Int) : List (BitVec 8) := (List.range w).map fun k => BitVec.ofInt 8 (n / 2 ^ (8 * (w - 1 - k)))
theorem beI_len (w : Nat) (n : Int) : (beI w n).length = w := by simp [beI]
theorem beI_succ {w k : Nat} {n : Int} (h : k < w) : (beI w n).take (k + 1) = (beI w n).take k ++ [BitVec.ofInt 8 (n / 2 ^ (8 * (w - 1 - k)))] := by
 rw [List.take_succ_eq_append_getElem (by rw [beI_len]; exact h)]
 simp [beI]
def beN : List (BitVec 8) → Nat → Nat
 | [], a => a
 | x :: l, a => beN l (a * 256 + x.toNat)
theorem beN_succ : ∀ (l : List (BitVec 8)) (k a : Nat), k < l.length → beN (l.take (k + 1)) a = beN (l.take k) a * 256 + (l.getD k 0#8).toNat
 | [], k, a, h => absurd h (Nat.not_lt_zero _)
 | x :: l, 0, a, _ => by simp [beN]
 | x :: l, k + 1, a, h => by
  have := beN_succ l k (a * 256 + x.toNat) (by simpa using h)
  simpa [beN] using this
theorem beN_lt : ∀ (l : List (BitVec 8)) (a : Nat), beN l a < (a + 1) * 256 ^ l.length
 | [], a => by simp [beN]
 | x :: l, a => by
  have h := beN_lt l (a * 256 + x.toNat)
  have hx := x.isLt
  rw [beN, List.length_cons, Nat.pow_succ, Nat.mul_comm (256 ^ l.length), ← Nat.mul_assoc]
  exact Nat.lt_of_lt_of_le h (Nat.mul_le_mul_right _ (by omega))
theorem beN_le4 {l : List (BitVec 8)} (h : l.length ≤ 4) : beN l 0 < 4294967296 := by
 have h1 := beN_lt l 0
 have h2 : 256 ^ l.length ≤ 256 ^ 4 := Nat.pow_le_pow_right (by decide) h
 omega
theorem beN_step {l : List (BitVec 8)} {w k : Nat} (h : k < w) (hl : w ≤ l.length) : beN ((l.take w).take (k + 1)) 0 = beN ((l.take w).take k) 0 * 256 + (l.getD k 0#8).toNat := by
 rw [beN_succ _ _ _ (by simp; omega)]
 congr 2
 simp [List.getD_eq_getElem?_getD, List.getElem?_take, h]
theorem shl8 {a : Nat} (h : a < 4294967296) : -9223372036854775808 ≤ (a : Int) * 2 ^ (8 : Int).toNat ∧ (a : Int) * 2 ^ (8 : Int).toNat ≤ 9223372036854775807 := by
 have : ((2 : Int) ^ (8 : Int).toNat) = 256 := by decide
 rw [this]
 omega
/-! tickets -/
structure Ent where
 id : Int
 psk : List (BitVec 8)
 hp : psk.length = 32
instance : Inhabited Ent := ⟨⟨0, List.replicate 32 0#8, List.length_replicate⟩⟩
def EntE : Enc Ent where
 f e := [[iV e.id], e.psk.map u8V].flatten
 sz := 33
 pos := by decide
 len e := by simp [e.hp]
 one e u hu := by
  simp only [List.flatten_cons, List.flatten_nil, List.append_nil, List.mem_append, List.mem_singleton, List.mem_map] at hu
  rcases hu with rfl | ⟨z, _, rfl⟩ <;> rfl
def mkEnt (id : Int) (psk : List (BitVec 8)) : Ent := if h : psk.length = 32 then ⟨id, psk, h⟩ else ⟨id, List.replicate 32 0#8, List.length_replicate⟩
theorem mkEnt_id (id : Int) (psk : List (BitVec 8)) : (mkEnt id psk).id = id := by unfold mkEnt; split <;> rfl
theorem ent_row {id : Int} {psk : List (BitVec 8)} (h : psk.length = 32) : [[iV id], psk.map u8V].flatten = encs EntE [mkEnt id psk] := by
 rw [encs_one, mkEnt, dif_pos h]
 rfl
theorem ent_self (e : Ent) : [[iV e.id], e.psk.map u8V].flatten = encs EntE [e] := by rw [encs_one]; rfl
def risB (nx : Int) : Int → List Ent → Bool
 | _, [] => true
 | last, e :: L => decide (last < e.id) && decide (e.id < nx) && risB nx e.id L
def rightT (nx : Int) (L : List Ent) : Bool := decide (0 ≤ nx ∧ nx ≤ 2147483647 ∧ L.length ≤ 8) && risB nx (-1) L
def lastId (L : List Ent) : Nat → Int
 | 0 => -1
 | k + 1 => (L.getD k default).id
theorem drop_at {L : List Ent} {k : Nat} (h : k < L.length) : L.drop k = L.getD k default :: L.drop (k + 1) := by
 rw [List.drop_eq_getElem_cons h, List.getD_eq_getElem?_getD, List.getElem?_eq_getElem h]
 rfl
theorem ris_go {nx : Int} {L : List Ent} {k : Nat} (h : k < L.length) (h1 : lastId L k < (L.getD k default).id) (h2 : (L.getD k default).id < nx) : risB nx (lastId L k) (L.drop k) = risB nx (lastId L (k + 1)) (L.drop (k + 1)) := by
 rw [drop_at h, risB, decide_eq_true h1, decide_eq_true h2]
 rfl
theorem ris_no {nx : Int} {L : List Ent} {k : Nat} (h : k < L.length) (h1 : ¬ (lastId L k < (L.getD k default).id ∧ (L.getD k default).id < nx)) : risB nx (lastId L k) (L.drop k) = false := by
 rw [drop_at h, risB]
 by_cases h2 : lastId L k < (L.getD k default).id
 · rw [decide_eq_false (fun h3 => h1 ⟨h2, h3⟩)]; simp
 · rw [decide_eq_false h2]; simp
theorem rt_a {nx : Int} {L : List Ent} (h : ¬ (0 ≤ nx ∧ nx ≤ 2147483647 ∧ L.length ≤ 8)) : rightT nx L = false := by rw [rightT, decide_eq_false h]; rfl
theorem rt_b {nx : Int} {L : List Ent} {k : Nat} (hr : risB nx (-1) L = risB nx (lastId L k) (L.drop k)) (h : k < L.length) (h1 : ¬ (lastId L k < (L.getD k default).id ∧ (L.getD k default).id < nx)) : rightT nx L = false := by
 rw [rightT, hr, ris_no h h1]; simp
theorem rt_c {nx : Int} {L : List Ent} {k : Nat} (h : 0 ≤ nx ∧ nx ≤ 2147483647 ∧ L.length ≤ 8) (hr : risB nx (-1) L = risB nx (lastId L k) (L.drop k)) (hk : L.length ≤ k) : rightT nx L = true := by
 rw [rightT, decide_eq_true h, hr, List.drop_eq_nil_of_le hk]; rfl
theorem rt_t {nx : Int} {L : List Ent} (h : rightT nx L = true) : 0 ≤ nx ∧ nx ≤ 2147483647 ∧ L.length ≤ 8 := by
 rw [rightT, Bool.and_eq_true] at h
 exact of_decide_eq_true h.1
/-- A number's ticket. -/
def tkT (key : List (BitVec 8)) (id : Int) : List (BitVec 8) := if 0 ≤ id ∧ id ≤ 2147483647 then beI 4 id ++ (macS key (beI 4 id)).take 12 else []
theorem tk_t {key : List (BitVec 8)} {id : Int} (h : 0 ≤ id ∧ id ≤ 2147483647) : tkT key id = beI 4 id ++ (macS key (beI 4 id)).take 12 := if_pos h
theorem tk_f {key : List (BitVec 8)} {id : Int} (h : ¬ (0 ≤ id ∧ id ≤ 2147483647)) : tkT key id = [] := if_neg h
theorem tk_len {key : List (BitVec 8)} {id : Int} (h : 0 ≤ id ∧ id ≤ 2147483647) : (tkT key id).length = 16 := by rw [tk_t h, List.length_append, beI_len, List.length_take, macS_len]; rfl
theorem tk_le (key : List (BitVec 8)) (id : Int) : (tkT key id).length ≤ 16 := by
 by_cases h : 0 ≤ id ∧ id ≤ 2147483647
 · rw [tk_len h]; decide
 · rw [tk_f h]; decide
theorem be4_lit (id : Int) : beI 4 id = [BitVec.ofInt 8 (id / 2 ^ 24), BitVec.ofInt 8 (id / 2 ^ 16), BitVec.ofInt 8 (id / 2 ^ 8), BitVec.ofInt 8 id] := by
 simp [beI, List.range_succ]

attribute [local irreducible] macS sumS
set_option maxHeartbeats 2000000 in
theorem c_TNew {key : List (BitVec 8)} (hkey : key.length = 32) :
  Con Try.prog 24 [aggK key] [] (fun v rs => v = .agg ([(key).map u8V, [iV 0, .slice none 0 0]].flatten).toArray ∧ rs = []) := by
 refine Con.enter Try.func24 Try.ntmps24 (Nat.le_of_ble_eq_true rfl) rfl fun w => ?_
 refine At.seq ?_
 refine At.region ?_
 refine At.s (S_box (some 1) 1 (zs := (key).map u8V) rfl rfl rfl (fun b1 => ?_))
 refine At.s (S_alloc (some 2) 2 (zs := [(List.replicate 32 0#8).map u8V, [iV 0, .slice none 0 0]].flatten) rfl ze40 rfl (fun b2 => ?_))
 refine At.nil ?_
 refine At.next ?_
 refine At.seq ?_
 refine At.region ?_
 refine At.q (some 3) (Q_loadA (k := 1) rfl rfl Try.underlying23 rfl sz23 LN rfl) ?_
 refine At.p (some 4) (P_build_struct (cs := ([(key).map u8V, [iV 0, .slice none 0 0]].flatten).toArray) (parts := _) (vs := [(0, _)]) rfl Try.underlying40 ze40 pl40 rfl (by show Instr.fill _ ([(List.replicate 32 0#8).map u8V, [iV 0], [.slice none 0 0]].flatten).toArray _ = _; refine fill_seg (k := 0) (vs := (key).map u8V) rfl rfl LN rfl LN LN ?_; exact fill_end (by simp))) ?_
 refine At.s (S_storeA none (k := 2) (vs := [(key).map u8V, [iV 0, .slice none 0 0]].flatten) rfl rfl rfl (by rw [sz40]; exact congrArg some LN) rfl (one_flatc (one_map (fun _ => rfl)) (one_flatc (one_cons rfl (one_cons rfl one_nil)) one_flat0)) NG rfl LN ?_)
 refine At.nil ?_
 refine At.next ?_
 refine At.ret ?_
 refine At.giveV (.inl rfl) [] (rows' := []) (ResV.cellA (k := 2) rfl rfl Try.underlying40 rfl sz40 LN rfl) rfl (by simp) (by simp) ?_
 exact ⟨rfl, rfl⟩

set_option maxHeartbeats 2000000 in
theorem c_TRight {key : List (BitVec 8)} {next : Int} {L : List Ent} {A : Option Addr} {n c b q : Nat} (hkey : key.length = 32) (hL : L.length = n) (hA : 0 < n → A = some ⟨b, q, none⟩) (hc : n ≤ c) :
  Con Try.prog 32 [.agg ([(key).map u8V, [iV next, .slice A n c]].flatten).toArray] [⟨false, b, q, 0, encs EntE L, 0⟩] (fun v rs => v = .bool (rightT next L) ∧ rs = []) := by
 refine Con.enter Try.func32 Try.ntmps32 (Nat.le_of_ble_eq_true rfl) rfl fun w => ?_
 refine At.seq ?_
 refine At.region ?_
 refine At.s (S_box (some 1) 1 (zs := [(key).map u8V, [iV next, .slice A n c]].flatten) rfl rfl rfl (fun b1 => ?_))
 refine At.p (some 2) (P_assign rfl rfl) ?_
 refine At.nil ?_
 refine At.next ?_
 refine At.seq ?_
 refine At.seq ?_
 refine At.region ?_
 refine At.p (some 6) (P_fieldAddr0 (off := 32) rfl Try.underlying40 rfl sz3 rfl rfl) ?_
 refine At.q (some 7) (Q_loadO (k := 1) rfl rfl Try.underlying3 rfl rfl (seg_get (i := 1) (p := 0) rfl LN rfl)) ?_
 refine At.p (some 8) (P_cmp rfl rfl rfl rfl rfl rfl) ?_
 refine At.p (some 9) (P_move rfl rfl) ?_
 refine At.gsplit (t := 9) (want := false) rfl (fun g1 => ?_) (fun g1 => ?_)
 ·
  have eg1 : ¬ next < 0 := of_decide_eq_false g1
  refine At.gy (t := 9) rfl g1 rfl rfl ?_
  refine At.p (some 10) (P_fieldAddr0 (off := 32) rfl Try.underlying40 rfl sz3 rfl rfl) ?_
  refine At.gy (t := 9) rfl g1 rfl rfl ?_
  refine At.q (some 11) (Q_loadO (k := 1) rfl rfl Try.underlying3 rfl rfl (seg_get (i := 1) (p := 0) rfl LN rfl)) ?_
  refine At.gy (t := 9) rfl g1 rfl rfl ?_
  refine At.p (some 12) (P_cmp rfl rfl rfl rfl rfl rfl) ?_
  refine At.p (some 13) (P_pick_f rfl rfl g1 rfl) ?_
  refine At.p (some 14) (P_move rfl rfl) ?_
  refine At.gsplit (t := 14) (want := false) rfl (fun g2 => ?_) (fun g2 => ?_)
  ·
   have eg2 : ¬ next > 2147483647 := of_decide_eq_false g2
   refine At.gy (t := 14) rfl g2 rfl rfl ?_
   refine At.p (some 15) (P_fieldAddr0 (off := 33) rfl Try.underlying40 rfl sz38 rfl rfl) ?_
   refine At.gy (t := 14) rfl g2 rfl rfl ?_
   refine At.q (some 16) (Q_loadO (k := 1) rfl rfl Try.underlying38 rfl rfl (seg_get (i := 1) (p := 1) rfl LN rfl)) ?_
   refine At.gy (t := 14) rfl g2 rfl rfl ?_
   refine At.p (some 17) (P_len_sl rfl rfl ⟨_, Try.underlying38⟩ rfl) ?_
   refine At.gy (t := 14) rfl g2 rfl rfl ?_
   refine At.p (some 18) (P_cmp rfl rfl rfl rfl rfl rfl) ?_
   refine At.p (some 19) (P_pick_f rfl rfl g2 rfl) ?_
   refine At.nil ?_
   refine At.next ?_
   refine At.cond rfl (fun h19 => ?_) (fun h19 => ?_)
   · -- cond 19 t
    have e19 : (n : Int) > 8 := of_decide_eq_true h19
    refine At.seq ?_
    refine At.region ?_
    refine At.p (some 2) (P_assign rfl rfl) ?_
    refine At.nil ?_
    refine At.next ?_
    refine At.ret ?_
    refine At.thn_r ?_
    have hq0 : false = (rightT next L) := (by symm; first | exact rt_a (by omega) | exact rt_b hr (by omega) (by omega) | exact rt_c (by omega) hr (by omega))
    refine At.give (.inl rfl) [] (rows' := []) (vs := [_]) rfl ⟨rfl, trivial⟩ rfl (by simp) (by simp) ⟨(by first | (rw [hq0]; try rfl; done) | (rw [← hq0]; try rfl; done) | (simp only [hq0]; try rfl; done) | (simp only [← hq0]; try rfl; done) | rfl), (by first | (rw [hq0]; try rfl; done) | (rw [← hq0]; try rfl; done) | (simp only [hq0]; try rfl; done) | (simp only [← hq0]; try rfl; done) | rfl)⟩
   · -- cond 19 f
    have e19 : ¬ (n : Int) > 8 := of_decide_eq_false h19
    refine At.skip ?_
    refine At.next ?_
    refine At.seq ?_
    refine At.region ?_
    refine At.p (some 3) (P_assign rfl rfl) ?_
    refine At.nil ?_
    refine At.next ?_
    refine At.seq ?_
    refine At.seq ?_
    refine At.region ?_
    refine At.p (some 20) (P_fieldAddr0 (off := 33) rfl Try.underlying40 rfl sz38 rfl rfl) ?_
    refine At.q (some 21) (Q_loadO (k := 1) rfl rfl Try.underlying38 rfl rfl (seg_get (i := 1) (p := 1) rfl LN rfl)) ?_
    refine At.p (some 22) (P_len_sl rfl rfl ⟨_, Try.underlying38⟩ rfl) ?_
    refine At.p (some 23) (P_move rfl rfl) ?_
    refine At.nil ?_
    refine At.next ?_
    refine At.block ?_
    refine At.loopx (I := fun m fr H => ∃ (k : Nat), m = n - k ∧ fr = frOf [(0, .agg ([(key).map u8V, [iV next, .slice A n c]].flatten).toArray), (1, ptr b1 0), (3, iV (lastId L k)), (6, ptr b1 32), (7, iV next), (8, .bool (decide (next < 0))), (9, .bool (decide (next < 0))), (10, ptr b1 32), (11, iV next), (12, .bool (decide (next > 2147483647))), (13, .bool (decide (next > 2147483647))), (14, .bool (decide (next > 2147483647))), (15, ptr b1 33), (16, .slice A n c), (17, iV (n : Int)), (18, .bool (decide ((n : Int) > 8))), (19, .bool (decide ((n : Int) > 8))), (20, ptr b1 33), (21, .slice A n c), (22, iV (n : Int)), (23, iV (k : Int))] ∧ H = hOf [(0, ⟨false, b, q, 0, encs EntE L, 0⟩), (1, ⟨true, b1, 0, 40, [(key).map u8V, [iV next, .slice A n c]].flatten, 0⟩)] ∧ (k ≤ n) ∧ (-1 ≤ lastId L k) ∧ (risB next (-1) L = risB next (lastId L k) (L.drop k))) ?_ ?_
    ·
     intro Kc0 hKc0
     refine At.to [(0, _), (1, _), (3, iV (lastId L 0)), (6, _), (7, _), (8, _), (9, _), (10, _), (11, _), (12, _), (13, _), (14, _), (15, _), (16, _), (17, _), (18, _), (19, _), (20, _), (21, _), (22, _), (23, _)] [(0, _), (1, _)] (AllL.cons_ (rfl) (AllL.cons_ (rfl) (AllL.cons_ (rfl) (AllL.cons_ (rfl) (AllL.cons_ (rfl) (AllL.cons_ (rfl) (AllL.cons_ (rfl) (AllL.cons_ (rfl) (AllL.cons_ (rfl) (AllL.cons_ (rfl) (AllL.cons_ (rfl) (AllL.cons_ (rfl) (AllL.cons_ (rfl) (AllL.cons_ (rfl) (AllL.cons_ (rfl) (AllL.cons_ (rfl) (AllL.cons_ (rfl) (AllL.cons_ (rfl) (AllL.cons_ (rfl) (AllL.cons_ (rfl) (AllL.cons_ (rfl) trivial))))))))))))))))))))) (AllL.cons_ (rfl) (AllL.cons_ (rfl) trivial)) ?_
     exact hKc0 _ _ _ ⟨0, rfl, rfl, rfl, (by omega), (by show (-1 : Int) ≤ -1; omega), rfl⟩
    ·
     rintro m fr H ⟨k, rfl, rfl, rfl, hk, hl1, hr⟩ Kc0 hKc0
     refine At.seq ?_
     refine At.region ?_
     refine At.p (some 24) (P_cmp rfl rfl rfl rfl rfl rfl) ?_
     refine At.nil ?_
     refine At.next ?_
     refine At.seq ?_
     refine At.cond rfl (fun h24 => ?_) (fun h24 => ?_)
     · -- cond 24 t
      have e24 : (k : Int) < (n : Int) := of_decide_eq_true h24
      refine At.skip ?_
      refine At.next ?_
      refine At.seq ?_
      refine At.block ?_
      refine At.seq ?_
      refine At.region ?_
      refine At.p (some 25) (P_indexAddr_sl (b := b) (m := q) (j := k) rfl Try.underlying38 sz96 rfl (hA OG) rfl RO OG) ?_
      have enf26 := Ent.hp (L.getD k default)
      refine At.q (some 26) (Q_loadEN (en := EntE) (k := 0) (j := k) (p := 0) (L := L) (cs := [[iV ((L.getD k default).id)], ((L.getD k default).psk).map u8V].flatten) (sz := 33) default rfl rfl rfl Try.underlying96 rfl sz96 rfl OG OG (List.take_of_length_le (Nat.le_of_eq (Enc.len _ _))) LN (by decide)) ?_
      refine At.s (S_alloc (some 5) 5 (zs := [[iV 0], (List.replicate 32 0#8).map u8V].flatten) rfl ze96 rfl (fun b5 => ?_))
      refine At.s (S_storeA none (k := 5) (vs := [[iV ((L.getD k default).id)], ((L.getD k default).psk).map u8V].flatten) rfl rfl rfl (by rw [sz96]; exact congrArg some LN) rfl (one_flatc (one_cons rfl one_nil) (one_flatc (one_map (fun _ => rfl)) one_flat0)) NG rfl LN ?_)
      refine At.nil ?_
      refine At.next ?_
      refine At.seq ?_
      refine At.seq ?_
      refine At.region ?_
      refine At.p (some 27) (P_fieldAddr0 (off := 0) rfl Try.underlying96 rfl sz3 rfl rfl) ?_
      refine At.q (some 28) (Q_loadO (k := 5) rfl rfl Try.underlying3 rfl rfl (seg_get (i := 0) (p := 0) rfl LN rfl)) ?_
      refine At.p (some 29) (P_move rfl rfl) ?_
      refine At.p (some 30) (P_cmp rfl rfl rfl rfl rfl rfl) ?_
      refine At.p (some 31) (P_move rfl rfl) ?_
      refine At.gsplit (t := 31) (want := false) rfl (fun g3 => ?_) (fun g3 => ?_)
      ·
       have eg3 : ¬ ((L.getD k default).id) ≤ (lastId L k) := of_decide_eq_false g3
       refine At.gy (t := 31) rfl g3 rfl rfl ?_
       refine At.p (some 32) (P_fieldAddr0 (off := 0) rfl Try.underlying96 rfl sz3 rfl rfl) ?_
       refine At.gy (t := 31) rfl g3 rfl rfl ?_
       refine At.q (some 33) (Q_loadO (k := 5) rfl rfl Try.underlying3 rfl rfl (seg_get (i := 0) (p := 0) rfl LN rfl)) ?_
       refine At.gy (t := 31) rfl g3 rfl rfl ?_
       refine At.p (some 34) (P_fieldAddr0 (off := 32) rfl Try.underlying40 rfl sz3 rfl rfl) ?_
       refine At.gy (t := 31) rfl g3 rfl rfl ?_
       refine At.q (some 35) (Q_loadO (k := 1) rfl rfl Try.underlying3 rfl rfl (seg_get (i := 1) (p := 0) rfl LN rfl)) ?_
       refine At.gy (t := 31) rfl g3 rfl rfl ?_
       refine At.p (some 36) (P_cmp rfl rfl rfl rfl rfl rfl) ?_
       refine At.p (some 37) (P_pick_f rfl rfl g3 rfl) ?_
       refine At.nil ?_
       refine At.next ?_
       refine At.cond rfl (fun h37 => ?_) (fun h37 => ?_)
       · -- cond 37 t
        have e37 : ((L.getD k default).id) ≥ next := of_decide_eq_true h37
        refine At.seq ?_
        refine At.region ?_
        refine At.p (some 2) (P_assign rfl rfl) ?_
        refine At.nil ?_
        refine At.next ?_
        refine At.ret ?_
        refine At.thn_r ?_
        refine At.inb_r ?_
        refine At.thn_r ?_
        refine At.thn_r ?_
        refine At.inb_r ?_
        refine At.thn_r ?_
        have hq0 : false = (rightT next L) := (by symm; first | exact rt_a (by omega) | exact rt_b hr (by omega) (by omega) | exact rt_c (by omega) hr (by omega))
        refine At.give (.inl rfl) [] (rows' := []) (vs := [_]) rfl ⟨rfl, trivial⟩ rfl (by simp) (by simp) ⟨(by first | (rw [hq0]; try rfl; done) | (rw [← hq0]; try rfl; done) | (simp only [hq0]; try rfl; done) | (simp only [← hq0]; try rfl; done) | rfl), (by first | (rw [hq0]; try rfl; done) | (rw [← hq0]; try rfl; done) | (simp only [hq0]; try rfl; done) | (simp only [← hq0]; try rfl; done) | rfl)⟩
       · -- cond 37 f
        have e37 : ¬ ((L.getD k default).id) ≥ next := of_decide_eq_false h37
        refine At.skip ?_
        refine At.next ?_
        refine At.region ?_
        refine At.p (some 38) (P_fieldAddr0 (off := 0) rfl Try.underlying96 rfl sz3 rfl rfl) ?_
        refine At.q (some 39) (Q_loadO (k := 5) rfl rfl Try.underlying3 rfl rfl (seg_get (i := 0) (p := 0) rfl LN rfl)) ?_
        refine At.p (some 3) (P_assign rfl rfl) ?_
        refine At.nil ?_
        refine At.inb_n ?_
        refine At.next ?_
        refine At.region ?_
        refine At.p (some 40) (P_add_i rfl rfl rfl (by omega)) ?_
        refine At.p (some 23) (P_move rfl rfl) ?_
        refine At.nil ?_
        refine At.next ?_
        refine At.to [(0, _), (1, _), (3, iV (lastId L (k + 1))), (6, _), (7, _), (8, _), (9, _), (10, _), (11, _), (12, _), (13, _), (14, _), (15, _), (16, _), (17, _), (18, _), (19, _), (20, _), (21, _), (22, _), (23, _)] [(0, _), (1, _)] (AllL.cons_ (rfl) (AllL.cons_ (rfl) (AllL.cons_ (rfl) (AllL.cons_ (rfl) (AllL.cons_ (rfl) (AllL.cons_ (rfl) (AllL.cons_ (rfl) (AllL.cons_ (rfl) (AllL.cons_ (rfl) (AllL.cons_ (rfl) (AllL.cons_ (rfl) (AllL.cons_ (rfl) (AllL.cons_ (rfl) (AllL.cons_ (rfl) (AllL.cons_ (rfl) (AllL.cons_ (rfl) (AllL.cons_ (rfl) (AllL.cons_ (rfl) (AllL.cons_ (rfl) (AllL.cons_ (rfl) (AllL.cons_ (rfl) trivial))))))))))))))))))))) (AllL.cons_ (rfl) (AllL.cons_ (rfl) trivial)) ?_
        exact hKc0 _ _ _ (by omega) ⟨k + 1, rfl, rfl, rfl, (by omega), (by show -1 ≤ (L.getD k default).id; omega), (hr.trans (ris_go (by omega) (by omega) (by omega)))⟩
      ·
       have eg3 : ((L.getD k default).id) ≤ (lastId L k) := of_decide_eq_true g3
       refine At.gn (some 32) (t := 31) rfl g3 rfl rfl ?_
       refine At.gn (some 33) (t := 31) rfl g3 rfl rfl ?_
       refine At.gn (some 34) (t := 31) rfl g3 rfl rfl ?_
       refine At.gn (some 35) (t := 31) rfl g3 rfl rfl ?_
       refine At.gn (some 36) (t := 31) rfl g3 rfl rfl ?_
       refine At.p (some 37) (P_pick_t rfl rfl g3 rfl) ?_
       refine At.nil ?_
       refine At.next ?_
       refine At.cond rfl (fun _ => ?_) (fun h => absurd (h.symm.trans rfl) (by decide))
       refine At.seq ?_
       refine At.region ?_
       refine At.p (some 2) (P_assign rfl rfl) ?_
       refine At.nil ?_
       refine At.next ?_
       refine At.ret ?_
       refine At.thn_r ?_
       refine At.inb_r ?_
       refine At.thn_r ?_
       refine At.thn_r ?_
       refine At.inb_r ?_
       refine At.thn_r ?_
       have hq0 : false = (rightT next L) := (by symm; first | exact rt_a (by omega) | exact rt_b hr (by omega) (by omega) | exact rt_c (by omega) hr (by omega))
       refine At.give (.inl rfl) [] (rows' := []) (vs := [_]) rfl ⟨rfl, trivial⟩ rfl (by simp) (by simp) ⟨(by first | (rw [hq0]; try rfl; done) | (rw [← hq0]; try rfl; done) | (simp only [hq0]; try rfl; done) | (simp only [← hq0]; try rfl; done) | rfl), (by first | (rw [hq0]; try rfl; done) | (rw [← hq0]; try rfl; done) | (simp only [hq0]; try rfl; done) | (simp only [← hq0]; try rfl; done) | rfl)⟩
     · -- cond 24 f
      have e24 : ¬ (k : Int) < (n : Int) := of_decide_eq_false h24
      refine At.exit ?_
      refine At.thn_e ?_
      refine At.thn_e ?_
      refine At.inb_hit ?_
      refine At.next ?_
      refine At.seq ?_
      refine At.region ?_
      refine At.p (some 2) (P_assign rfl rfl) ?_
      refine At.nil ?_
      refine At.next ?_
      refine At.ret ?_
      have hq0 : true = (rightT next L) := (by symm; first | exact rt_a (by omega) | exact rt_b hr (by omega) (by omega) | exact rt_c (by omega) hr (by omega))
      refine At.give (.inl rfl) [] (rows' := []) (vs := [_]) rfl ⟨rfl, trivial⟩ rfl (by simp) (by simp) ⟨(by first | (rw [hq0]; try rfl; done) | (rw [← hq0]; try rfl; done) | (simp only [hq0]; try rfl; done) | (simp only [← hq0]; try rfl; done) | rfl), (by first | (rw [hq0]; try rfl; done) | (rw [← hq0]; try rfl; done) | (simp only [hq0]; try rfl; done) | (simp only [← hq0]; try rfl; done) | rfl)⟩
  ·
   have eg2 : next > 2147483647 := of_decide_eq_true g2
   refine At.gn (some 15) (t := 14) rfl g2 rfl rfl ?_
   refine At.gn (some 16) (t := 14) rfl g2 rfl rfl ?_
   refine At.gn (some 17) (t := 14) rfl g2 rfl rfl ?_
   refine At.gn (some 18) (t := 14) rfl g2 rfl rfl ?_
   refine At.p (some 19) (P_pick_t rfl rfl g2 rfl) ?_
   refine At.nil ?_
   refine At.next ?_
   refine At.cond rfl (fun _ => ?_) (fun h => absurd (h.symm.trans rfl) (by decide))
   refine At.seq ?_
   refine At.region ?_
   refine At.p (some 2) (P_assign rfl rfl) ?_
   refine At.nil ?_
   refine At.next ?_
   refine At.ret ?_
   refine At.thn_r ?_
   have hq0 : false = (rightT next L) := (by symm; first | exact rt_a (by omega) | exact rt_b hr (by omega) (by omega) | exact rt_c (by omega) hr (by omega))
   refine At.give (.inl rfl) [] (rows' := []) (vs := [_]) rfl ⟨rfl, trivial⟩ rfl (by simp) (by simp) ⟨(by first | (rw [hq0]; try rfl; done) | (rw [← hq0]; try rfl; done) | (simp only [hq0]; try rfl; done) | (simp only [← hq0]; try rfl; done) | rfl), (by first | (rw [hq0]; try rfl; done) | (rw [← hq0]; try rfl; done) | (simp only [hq0]; try rfl; done) | (simp only [← hq0]; try rfl; done) | rfl)⟩
 ·
  have eg1 : next < 0 := of_decide_eq_true g1
  refine At.gn (some 10) (t := 9) rfl g1 rfl rfl ?_
  refine At.gn (some 11) (t := 9) rfl g1 rfl rfl ?_
  refine At.gn (some 12) (t := 9) rfl g1 rfl rfl ?_
  refine At.p (some 13) (P_pick_t rfl rfl g1 rfl) ?_
  refine At.p (some 14) (P_move rfl rfl) ?_
  refine At.gn (some 15) (t := 14) rfl rfl rfl rfl ?_
  refine At.gn (some 16) (t := 14) rfl rfl rfl rfl ?_
  refine At.gn (some 17) (t := 14) rfl rfl rfl rfl ?_
  refine At.gn (some 18) (t := 14) rfl rfl rfl rfl ?_
  refine At.p (some 19) (P_pick_t rfl rfl rfl rfl) ?_
  refine At.nil ?_
  refine At.next ?_
  refine At.cond rfl (fun _ => ?_) (fun h => absurd (h.symm.trans rfl) (by decide))
  refine At.seq ?_
  refine At.region ?_
  refine At.p (some 2) (P_assign rfl rfl) ?_
  refine At.nil ?_
  refine At.next ?_
  refine At.ret ?_
  refine At.thn_r ?_
  have hq0 : false = (rightT next L) := (by symm; first | exact rt_a (by omega) | exact rt_b hr (by omega) (by omega) | exact rt_c (by omega) hr (by omega))
  refine At.give (.inl rfl) [] (rows' := []) (vs := [_]) rfl ⟨rfl, trivial⟩ rfl (by simp) (by simp) ⟨(by first | (rw [hq0]; try rfl; done) | (rw [← hq0]; try rfl; done) | (simp only [hq0]; try rfl; done) | (simp only [← hq0]; try rfl; done) | rfl), (by first | (rw [hq0]; try rfl; done) | (rw [← hq0]; try rfl; done) | (simp only [hq0]; try rfl; done) | (simp only [← hq0]; try rfl; done) | rfl)⟩

set_option maxHeartbeats 2000000 in
theorem c_TText {key : List (BitVec 8)} {next : Int} {L : List Ent} {A : Option Addr} {n c b q : Nat} {id : Int} (hkey : key.length = 32) (hL : L.length = n) (hA : 0 < n → A = some ⟨b, q, none⟩) (hc : n ≤ c) :
  Con Try.prog 36 [.agg ([(key).map u8V, [iV next, .slice A n c]].flatten).toArray, iV id] [⟨false, b, q, 0, encs EntE L, 0⟩] (fun v rs => ∃ (A' : Option Addr) (b' c' : Nat), (0 < c' → A' = some ⟨b', 0, none⟩) ∧ (tkT key id).length ≤ c' ∧ v = .slice A' (tkT key id).length c' ∧ rs = [⟨true, b', 0, 5, (tkT key id).map u8V, c' - (tkT key id).length⟩]) := by
 refine Con.enter Try.func36 Try.ntmps36 (Nat.le_of_ble_eq_true rfl) rfl fun w => ?_
 refine At.seq ?_
 refine At.region ?_
 refine At.s (S_box (some 2) 2 (zs := [(key).map u8V, [iV next, .slice A n c]].flatten) rfl rfl rfl (fun b2 => ?_))
 refine At.p (some 4) (P_assign rfl rfl) ?_
 refine At.nil ?_
 refine At.next ?_
 refine At.seq ?_
 refine At.seq ?_
 refine At.region ?_
 refine At.p (some 8) (P_move rfl rfl) ?_
 refine At.p (some 9) (P_cmp rfl rfl rfl rfl rfl rfl) ?_
 refine At.p (some 10) (P_move rfl rfl) ?_
 refine At.gsplit (t := 10) (want := false) rfl (fun g1 => ?_) (fun g1 => ?_)
 ·
  have eg1 : ¬ id < 0 := of_decide_eq_false g1
  refine At.gy (t := 10) rfl g1 rfl rfl ?_
  refine At.p (some 11) (P_move rfl rfl) ?_
  refine At.gy (t := 10) rfl g1 rfl rfl ?_
  refine At.p (some 12) (P_cmp rfl rfl rfl rfl rfl rfl) ?_
  refine At.p (some 13) (P_pick_f rfl rfl g1 rfl) ?_
  refine At.nil ?_
  refine At.next ?_
  refine At.cond rfl (fun h13 => ?_) (fun h13 => ?_)
  · -- cond 13 t
   have e13 : id > 2147483647 := of_decide_eq_true h13
   refine At.seq ?_
   refine At.region ?_
   refine At.p (some 4) (P_assign rfl rfl) ?_
   refine At.nil ?_
   refine At.next ?_
   refine At.ret ?_
   refine At.thn_r ?_
   refine At.empty 990 0 5 ?_
   have hq0 : ([] : List (BitVec 8)) = tkT key id := (tk_f (by omega)).symm
   refine At.give (.inl rfl) [990] (rows' := [_]) (vs := [_]) rfl ⟨rfl, trivial⟩ rfl (by simp) (by simp) ⟨none, 0, 0, (fun h => absurd h (Nat.lt_irrefl 0)), (by rw [← hq0]; exact Nat.le_refl _), (by first | (rw [hq0]; try rfl; done) | (rw [← hq0]; try rfl; done) | (simp only [hq0]; try rfl; done) | (simp only [← hq0]; try rfl; done) | rfl), (by first | (rw [hq0]; try rfl; done) | (rw [← hq0]; try rfl; done) | (simp only [hq0]; try rfl; done) | (simp only [← hq0]; try rfl; done) | rfl)⟩
  · -- cond 13 f
   have e13 : ¬ id > 2147483647 := of_decide_eq_false h13
   refine At.skip ?_
   refine At.next ?_
   refine At.seq ?_
   refine At.region ?_
   refine At.p (some 5) (P_assign rfl rfl) ?_
   refine At.nil ?_
   refine At.next ?_
   refine At.seq ?_
   refine At.seq ?_
   refine At.region ?_
   refine At.p (some 6) (P_assign rfl rfl) ?_
   refine At.nil ?_
   refine At.next ?_
   refine At.block ?_
   refine At.empty 5 0 5 ?_
   refine At.loopx (I := fun m fr H => ∃ (i : Nat) (A5 : Option Addr) (b5 c5 : Nat), m = 2 * (4 - i) ∧ fr = frOf [(0, .agg ([(key).map u8V, [iV next, .slice A n c]].flatten).toArray), (1, iV id), (2, ptr b2 0), (4, .slice none 0 0), (5, .slice A5 (((beI 4 id).take i).length) c5), (6, iV (3 - (i : Int))), (8, iV id), (9, .bool (decide (id < 0))), (10, .bool (decide (id < 0))), (11, iV id), (12, .bool (decide (id > 2147483647))), (13, .bool (decide (id > 2147483647)))] ∧ H = hOf [(0, ⟨false, b, q, 0, encs EntE L, 0⟩), (2, ⟨true, b2, 0, 40, [(key).map u8V, [iV next, .slice A n c]].flatten, 0⟩), (5, ⟨true, b5, 0, 5, ((beI 4 id).take i).map u8V, c5 - ((beI 4 id).take i).length⟩)] ∧ (0 < c5 → A5 = some ⟨b5, 0, none⟩) ∧ (((beI 4 id).take i).length ≤ c5) ∧ (i ≤ 4)) ?_ ?_
   ·
    intro Kc0 hKc0
    refine At.to [(0, _), (1, _), (2, _), (4, _), (5, _), (6, iV (3 - ((0 : Nat) : Int))), (8, _), (9, _), (10, _), (11, _), (12, _), (13, _)] [(0, _), (2, _), (5, _)] (AllL.cons_ (rfl) (AllL.cons_ (rfl) (AllL.cons_ (rfl) (AllL.cons_ (rfl) (AllL.cons_ (rfl) (AllL.cons_ (rfl) (AllL.cons_ (rfl) (AllL.cons_ (rfl) (AllL.cons_ (rfl) (AllL.cons_ (rfl) (AllL.cons_ (rfl) (AllL.cons_ (rfl) trivial)))))))))))) (AllL.cons_ (rfl) (AllL.cons_ (rfl) (AllL.cons_ (rfl) trivial))) ?_
    exact hKc0 _ _ _ ⟨0, none, 0, 0, rfl, rfl, rfl, (fun h => absurd h (Nat.lt_irrefl 0)), (by first | exact Nat.le_refl _ | omega | (simp; done)), (by omega)⟩
   ·
    rintro m fr H ⟨i, A5, b5, c5, rfl, rfl, rfl, g5a, g5b, hi⟩ Kc0 hKc0
    have hbl := beI_len 4 id
    refine At.seq ?_
    refine At.seq ?_
    refine At.region ?_
    refine At.p (some 14) (P_move rfl rfl) ?_
    refine At.p (some 15) (P_cmp rfl rfl rfl rfl rfl rfl) ?_
    refine At.nil ?_
    refine At.next ?_
    refine At.cond rfl (fun h15 => ?_) (fun h15 => ?_)
    · -- cond 15 t
     have e15 : (3 - (i : Int)) ≥ 0 := of_decide_eq_true h15
     refine At.skip ?_
     refine At.next ?_
     refine At.seq ?_
     refine At.block ?_
     refine At.region ?_
     refine At.p (some 18) (P_move rfl rfl) ?_
     refine At.p (some 19) (P_move rfl rfl) ?_
     refine At.p (some 20) (P_move rfl rfl) ?_
     refine At.p (some 21) (P_mul_i rfl rfl rfl (by omega)) ?_
     refine At.p (some 22) (P_shr_i rfl rfl rfl (by first | decide | omega) (by first | decide | omega)) ?_
     refine At.p (some 23) (P_conv_iw UK.u8 rfl Try.underlying3 Try.underlying5 rfl) ?_
     refine At.s (S_buildSliceV (some 24) 24 (([(BitVec.ofInt 8 (id / 2 ^ ((8 * (3 - (i : Int))) : Int).toNat))]).map u8V) rfl Try.underlying22 sz5 ze5 rfl rfl (by decide) (by decide) rfl rfl (fun b24 => ?_))
     refine At.s (S_appendM (some 25) 5 (((beI 4 id).take (i + 1))) (f := u8V) (l := ((beI 4 id).take i)) (L := [(BitVec.ofInt 8 (id / 2 ^ ((8 * (3 - (i : Int))) : Int).toNat))]) (m := 1) rfl Try.underlying22 Try.underlying22 (.inr ⟨_, rfl⟩) sz5 by5 ze5 rfl rfl (fun h => ⟨g5a h, rfl⟩) LN OG (Src.all (k := 24) (l := [(BitVec.ofInt 8 (id / 2 ^ ((8 * (3 - (i : Int))) : Int).toNat))]) rfl (fun _ => rfl) (fun _ => ⟨rfl, rfl, rfl⟩) LN) (fun _ => rfl) OG OG (by rw [beI_succ (by omega), show (8 * (3 - (i : Int))).toNat = 8 * (4 - 1 - i) by omega]) LN ?_)
     intro A25 b25 c25 g25a g25b
     refine At.p (some 5) (P_assign rfl rfl) ?_
     refine At.nil ?_
     refine At.inb_n ?_
     refine At.next ?_
     refine At.region ?_
     refine At.p (some 16) (P_move rfl rfl) ?_
     refine At.p (some 17) (P_sub_i rfl rfl rfl (by omega)) ?_
     refine At.p (some 6) (P_assign rfl rfl) ?_
     refine At.nil ?_
     refine At.next ?_
     refine At.to [(0, _), (1, _), (2, _), (4, _), (5, _), (6, iV (3 - ((i + 1 : Nat) : Int))), (8, _), (9, _), (10, _), (11, _), (12, _), (13, _)] [(0, _), (2, _), (5, _)] (AllL.cons_ (rfl) (AllL.cons_ (rfl) (AllL.cons_ (rfl) (AllL.cons_ (rfl) (AllL.cons_ (rfl) (AllL.cons_ ((congrArg (fun z : Int => some (iV z)) (by omega))) (AllL.cons_ (rfl) (AllL.cons_ (rfl) (AllL.cons_ (rfl) (AllL.cons_ (rfl) (AllL.cons_ (rfl) (AllL.cons_ (rfl) trivial)))))))))))) (AllL.cons_ (rfl) (AllL.cons_ (rfl) (AllL.cons_ (rfl) trivial))) ?_
     exact hKc0 _ _ _ (by omega) ⟨i + 1, A25, b25, c25, rfl, rfl, rfl, g25a, (by first | omega | (simp; done) | (simp <;> omega) | exact Nat.le_refl _), (by omega)⟩
    · -- cond 15 f
     have e15 : ¬ (3 - (i : Int)) ≥ 0 := of_decide_eq_false h15
     refine At.exit ?_
     refine At.thn_e ?_
     refine At.thn_e ?_
     refine At.inb_hit ?_
     refine At.next ?_
     refine At.seq ?_
     have hbl := beI_len 4 id
     have hml := macS_len key ((beI 4 id).take i)
     refine At.region ?_
     refine At.p (some 26) (P_fieldAddr0 (off := 0) rfl Try.underlying40 rfl sz23 rfl rfl) ?_
     refine At.p (some 27) (P_slice_arr1 (l := 0) (h := 32) (m := 32) rfl Try.underlying23 sz5 rfl rfl rfl rfl DO DO DO DO) ?_
     refine At.p (some 28) (P_move rfl rfl) ?_
     refine At.s (S_callV (some 29) [(2, _), (5, _)] [] (vs := [_, _]) rfl en64 rfl (VN (by simp) rfl (view_seg (i := 0) (j := 0) rfl RO LN) (VN (by simp) rfl View.all V0)) (by simp) (c_MacN (key := key) (n := 32) (A := (some ⟨b2, 0, none⟩)) (bq := b2) (q := 0) (b := ((beI 4 id).take i)) (nb := (((beI 4 id).take i).length)) (A2 := A5) (br := b5) (r := 0) LN LN (fun _ => rfl) (fun h => g5a (by omega)) OG OG) (by rintro _ _ ⟨rfl, rfl⟩; rfl) ?_)
     rintro _ _ ⟨rfl, rfl⟩
     have := macS_len key ((beI 4 id).take i)
     refine At.s (S_alloc (some 7) 7 (zs := (List.replicate 32 0#8).map u8V) rfl ze23 rfl (fun b7 => ?_))
     refine At.s (S_storeA none (k := 7) (vs := (macS key ((beI 4 id).take i)).map u8V) rfl rfl rfl (by rw [sz23]; exact congrArg some LN) rfl (one_map (fun _ => rfl)) NG rfl LN ?_)
     refine At.nil ?_
     refine At.next ?_
     refine At.seq ?_
     refine At.region ?_
     refine At.p (some 30) (P_move rfl rfl) ?_
     refine At.p (some 31) (P_slice_arr1 (l := 0) (h := 12) (m := 32) rfl Try.underlying23 sz5 rfl rfl ⟨_, _, rfl, rfl⟩ rfl DO DO DO DO) ?_
     refine At.s (S_appendM (some 32) 5 (((beI 4 id).take i ++ ((macS key ((beI 4 id).take i)).take 12))) (f := u8V) (l := ((beI 4 id).take i)) (L := ((macS key ((beI 4 id).take i)).take 12)) (m := 12) rfl Try.underlying22 Try.underlying22 (.inr ⟨_, rfl⟩) sz5 by5 ze5 rfl rfl (fun h => ⟨g5a h, rfl⟩) LN OG (Src.part (k := 7) (j := 0) (l := (macS key ((beI 4 id).take i))) rfl (fun _ => rfl) (fun _ => ⟨rfl, rfl, rfl⟩) OG) (fun _ => rfl) OG OG rfl LN ?_)
     intro A32 b32 c32 g32a g32b
     refine At.p (some 4) (P_assign rfl rfl) ?_
     refine At.nil ?_
     refine At.next ?_
     refine At.ret ?_
     have hq0 : ((beI 4 id).take i ++ ((macS key ((beI 4 id).take i)).take 12)) = tkT key id := (by rw [tk_t (by omega), show i = 4 by omega, List.take_of_length_le (Nat.le_of_eq (beI_len _ _))])
     refine At.give (.inl rfl) [5] (rows' := [_]) (vs := [_]) rfl ⟨rfl, trivial⟩ rfl (by simp) (by simp) ⟨A32, b32, c32, g32a, (by rw [← hq0]; first | omega | (simp; done) | (simp <;> omega) | exact Nat.le_refl _), (by first | (rw [hq0]; try rfl; done) | (rw [← hq0]; try rfl; done) | (simp only [hq0]; try rfl; done) | (simp only [← hq0]; try rfl; done) | rfl), (by first | (rw [hq0]; try rfl; done) | (rw [← hq0]; try rfl; done) | (simp only [hq0]; try rfl; done) | (simp only [← hq0]; try rfl; done) | rfl)⟩
 ·
  have eg1 : id < 0 := of_decide_eq_true g1
  refine At.gn (some 11) (t := 10) rfl g1 rfl rfl ?_
  refine At.gn (some 12) (t := 10) rfl g1 rfl rfl ?_
  refine At.p (some 13) (P_pick_t rfl rfl g1 rfl) ?_
  refine At.nil ?_
  refine At.next ?_
  refine At.cond rfl (fun _ => ?_) (fun h => absurd (h.symm.trans rfl) (by decide))
  refine At.seq ?_
  refine At.region ?_
  refine At.p (some 4) (P_assign rfl rfl) ?_
  refine At.nil ?_
  refine At.next ?_
  refine At.ret ?_
  refine At.thn_r ?_
  refine At.empty 990 0 5 ?_
  have hq0 : ([] : List (BitVec 8)) = tkT key id := (tk_f (by omega)).symm
  refine At.give (.inl rfl) [990] (rows' := [_]) (vs := [_]) rfl ⟨rfl, trivial⟩ rfl (by simp) (by simp) ⟨none, 0, 0, (fun h => absurd h (Nat.lt_irrefl 0)), (by rw [← hq0]; exact Nat.le_refl _), (by first | (rw [hq0]; try rfl; done) | (rw [← hq0]; try rfl; done) | (simp only [hq0]; try rfl; done) | (simp only [← hq0]; try rfl; done) | rfl), (by first | (rw [hq0]; try rfl; done) | (rw [← hq0]; try rfl; done) | (simp only [hq0]; try rfl; done) | (simp only [← hq0]; try rfl; done) | rfl)⟩

set_option maxHeartbeats 2000000 in
theorem r_TText {key : List (BitVec 8)} {id : Int} (hkey : key.length = 32) :
  Con Try.prog 28 [aggK key, iV id] [] (fun v rs => ∃ (A' : Option Addr) (b' c' : Nat), (0 < c' → A' = some ⟨b', 0, none⟩) ∧ (tkT key id).length ≤ c' ∧ v = .slice A' (tkT key id).length c' ∧ rs = [⟨true, b', 0, 5, (tkT key id).map u8V, c' - (tkT key id).length⟩]) := by
 refine Con.enter Try.func28 Try.ntmps28 (Nat.le_of_ble_eq_true rfl) rfl fun w => ?_
 refine At.seq ?_
 refine At.region ?_
 refine At.s (S_box (some 2) 2 (zs := (key).map u8V) rfl rfl rfl (fun b2 => ?_))
 refine At.p (some 4) (P_assign rfl rfl) ?_
 refine At.nil ?_
 refine At.next ?_
 refine At.seq ?_
 refine At.seq ?_
 refine At.region ?_
 refine At.p (some 7) (P_move rfl rfl) ?_
 refine At.p (some 8) (P_cmp rfl rfl rfl rfl rfl rfl) ?_
 refine At.p (some 9) (P_move rfl rfl) ?_
 refine At.gsplit (t := 9) (want := false) rfl (fun g1 => ?_) (fun g1 => ?_)
 ·
  have eg1 : ¬ id < 0 := of_decide_eq_false g1
  refine At.gy (t := 9) rfl g1 rfl rfl ?_
  refine At.p (some 10) (P_move rfl rfl) ?_
  refine At.gy (t := 9) rfl g1 rfl rfl ?_
  refine At.p (some 11) (P_cmp rfl rfl rfl rfl rfl rfl) ?_
  refine At.p (some 12) (P_pick_f rfl rfl g1 rfl) ?_
  refine At.nil ?_
  refine At.next ?_
  refine At.cond rfl (fun h12 => ?_) (fun h12 => ?_)
  · -- cond 12 t
   have e12 : id > 2147483647 := of_decide_eq_true h12
   refine At.seq ?_
   refine At.region ?_
   refine At.p (some 4) (P_assign rfl rfl) ?_
   refine At.nil ?_
   refine At.next ?_
   refine At.ret ?_
   refine At.thn_r ?_
   refine At.empty 990 0 5 ?_
   have hq0 : ([] : List (BitVec 8)) = tkT key id := (tk_f (by omega)).symm
   refine At.give (.inl rfl) [990] (rows' := [_]) (vs := [_]) rfl ⟨rfl, trivial⟩ rfl (by simp) (by simp) ⟨none, 0, 0, (fun h => absurd h (Nat.lt_irrefl 0)), (by rw [← hq0]; exact Nat.le_refl _), (by first | (rw [hq0]; try rfl; done) | (rw [← hq0]; try rfl; done) | (simp only [hq0]; try rfl; done) | (simp only [← hq0]; try rfl; done) | rfl), (by first | (rw [hq0]; try rfl; done) | (rw [← hq0]; try rfl; done) | (simp only [hq0]; try rfl; done) | (simp only [← hq0]; try rfl; done) | rfl)⟩
  · -- cond 12 f
   have e12 : ¬ id > 2147483647 := of_decide_eq_false h12
   refine At.skip ?_
   refine At.next ?_
   refine At.seq ?_
   refine At.region ?_
   refine At.p (some 13) (P_move rfl rfl) ?_
   refine At.p (some 14) (P_shr_i rfl rfl rfl (by first | decide | omega) (by first | decide | omega)) ?_
   refine At.p (some 15) (P_conv_iw UK.u8 rfl Try.underlying3 Try.underlying5 rfl) ?_
   refine At.p (some 16) (P_move rfl rfl) ?_
   refine At.p (some 17) (P_shr_i rfl rfl rfl (by first | decide | omega) (by first | decide | omega)) ?_
   refine At.p (some 18) (P_conv_iw UK.u8 rfl Try.underlying3 Try.underlying5 rfl) ?_
   refine At.p (some 19) (P_move rfl rfl) ?_
   refine At.p (some 20) (P_shr_i rfl rfl rfl (by first | decide | omega) (by first | decide | omega)) ?_
   refine At.p (some 21) (P_conv_iw UK.u8 rfl Try.underlying3 Try.underlying5 rfl) ?_
   refine At.p (some 22) (P_move rfl rfl) ?_
   refine At.p (some 23) (P_conv_iw UK.u8 rfl Try.underlying3 Try.underlying5 rfl) ?_
   refine At.s (S_buildSliceV (some 24) 24 (([(BitVec.ofInt 8 (id / 2 ^ 24)), (BitVec.ofInt 8 (id / 2 ^ 16)), (BitVec.ofInt 8 (id / 2 ^ 8)), (BitVec.ofInt 8 id)]).map u8V) rfl Try.underlying22 sz5 ze5 rfl rfl (by decide) (by decide) rfl ⟨rfl, rfl, rfl, rfl⟩ (fun b24 => ?_))
   refine At.p (some 5) (P_assign rfl rfl) ?_
   refine At.nil ?_
   refine At.next ?_
   refine At.seq ?_
   refine At.region ?_
   refine At.s (S_buildSlice0 (some 25) 25 rfl Try.underlying22 sz5 (fun b25 => ?_))
   refine At.p (some 26) (P_slice_arr1 (l := 0) (h := 32) (m := 32) rfl Try.underlying23 sz5 rfl rfl rfl rfl DO DO DO DO) ?_
   refine At.s (S_appendM (some 27) 25 (key) (f := u8V) (l := []) (L := key) (m := 32) rfl Try.underlying22 Try.underlying22 (.inr ⟨_, rfl⟩) sz5 by5 ze5 rfl rfl (fun h => ⟨rfl, rfl⟩) LN OG (Src.all (k := 2) (l := key) rfl (fun _ => rfl) (fun _ => ⟨rfl, rfl, rfl⟩) LN) (fun _ => rfl) OG OG rfl LN ?_)
   intro A27 b27 c27 g27a g27b
   refine At.p (some 28) (P_move rfl rfl) ?_
   refine At.s (S_callV (some 29) [(25, _), (24, _)] [] (vs := [_, _]) rfl en60 rfl (VN (by simp) rfl View.all (VN (by simp) rfl View.all V0)) (by simp) (r_MacN (key := key) (n := key.length) (A := A27) (bq := b27) (q := 0) (b := [(BitVec.ofInt 8 (id / 2 ^ 24)), (BitVec.ofInt 8 (id / 2 ^ 16)), (BitVec.ofInt 8 (id / 2 ^ 8)), (BitVec.ofInt 8 id)]) (nb := 4) (A2 := (some ⟨b24, 0, none⟩)) (br := b24) (r := 0) LN LN (fun h => g27a (by omega)) (fun _ => rfl) OG OG) (by rintro _ _ ⟨rfl, rfl⟩; rfl) ?_)
   rintro _ _ ⟨rfl, rfl⟩
   have := macS_len key [(BitVec.ofInt 8 (id / 2 ^ 24)), (BitVec.ofInt 8 (id / 2 ^ 16)), (BitVec.ofInt 8 (id / 2 ^ 8)), (BitVec.ofInt 8 id)]
   refine At.s (S_alloc (some 6) 6 (zs := (List.replicate 32 0#8).map u8V) rfl ze23 rfl (fun b6 => ?_))
   refine At.s (S_storeA none (k := 6) (vs := (macS key [(BitVec.ofInt 8 (id / 2 ^ 24)), (BitVec.ofInt 8 (id / 2 ^ 16)), (BitVec.ofInt 8 (id / 2 ^ 8)), (BitVec.ofInt 8 id)]).map u8V) rfl rfl rfl (by rw [sz23]; exact congrArg some LN) rfl (one_map (fun _ => rfl)) NG rfl LN ?_)
   refine At.nil ?_
   refine At.next ?_
   refine At.seq ?_
   refine At.region ?_
   refine At.p (some 30) (P_move rfl rfl) ?_
   refine At.p (some 31) (P_slice_arr1 (l := 0) (h := 12) (m := 32) rfl Try.underlying23 sz5 rfl rfl ⟨_, _, rfl, rfl⟩ rfl DO DO DO DO) ?_
   refine At.s (S_appendM (some 32) 24 (([(BitVec.ofInt 8 (id / 2 ^ 24)), (BitVec.ofInt 8 (id / 2 ^ 16)), (BitVec.ofInt 8 (id / 2 ^ 8)), (BitVec.ofInt 8 id)] ++ ((macS key [(BitVec.ofInt 8 (id / 2 ^ 24)), (BitVec.ofInt 8 (id / 2 ^ 16)), (BitVec.ofInt 8 (id / 2 ^ 8)), (BitVec.ofInt 8 id)]).take 12))) (f := u8V) (l := [(BitVec.ofInt 8 (id / 2 ^ 24)), (BitVec.ofInt 8 (id / 2 ^ 16)), (BitVec.ofInt 8 (id / 2 ^ 8)), (BitVec.ofInt 8 id)]) (L := ((macS key [(BitVec.ofInt 8 (id / 2 ^ 24)), (BitVec.ofInt 8 (id / 2 ^ 16)), (BitVec.ofInt 8 (id / 2 ^ 8)), (BitVec.ofInt 8 id)]).take 12)) (m := 12) rfl Try.underlying22 Try.underlying22 (.inr ⟨_, rfl⟩) sz5 by5 ze5 rfl rfl (fun h => ⟨rfl, rfl⟩) LN OG (Src.part (k := 6) (j := 0) (l := (macS key [(BitVec.ofInt 8 (id / 2 ^ 24)), (BitVec.ofInt 8 (id / 2 ^ 16)), (BitVec.ofInt 8 (id / 2 ^ 8)), (BitVec.ofInt 8 id)])) rfl (fun _ => rfl) (fun _ => ⟨rfl, rfl, rfl⟩) OG) (fun _ => rfl) OG OG rfl LN ?_)
   intro A32 b32 c32 g32a g32b
   refine At.p (some 4) (P_assign rfl rfl) ?_
   refine At.nil ?_
   refine At.next ?_
   refine At.ret ?_
   have hq0 : ([(BitVec.ofInt 8 (id / 2 ^ 24)), (BitVec.ofInt 8 (id / 2 ^ 16)), (BitVec.ofInt 8 (id / 2 ^ 8)), (BitVec.ofInt 8 id)] ++ ((macS key [(BitVec.ofInt 8 (id / 2 ^ 24)), (BitVec.ofInt 8 (id / 2 ^ 16)), (BitVec.ofInt 8 (id / 2 ^ 8)), (BitVec.ofInt 8 id)]).take 12)) = tkT key id := (by rw [tk_t (by omega), be4_lit])
   refine At.give (.inl rfl) [24] (rows' := [_]) (vs := [_]) rfl ⟨rfl, trivial⟩ rfl (by simp) (by simp) ⟨A32, b32, c32, g32a, (by rw [← hq0]; first | omega | (simp; done) | (simp <;> omega) | exact Nat.le_refl _), (by first | (rw [hq0]; try rfl; done) | (rw [← hq0]; try rfl; done) | (simp only [hq0]; try rfl; done) | (simp only [← hq0]; try rfl; done) | rfl), (by first | (rw [hq0]; try rfl; done) | (rw [← hq0]; try rfl; done) | (simp only [hq0]; try rfl; done) | (simp only [← hq0]; try rfl; done) | rfl)⟩
 ·
  have eg1 : id < 0 := of_decide_eq_true g1
  refine At.gn (some 10) (t := 9) rfl g1 rfl rfl ?_
  refine At.gn (some 11) (t := 9) rfl g1 rfl rfl ?_
  refine At.p (some 12) (P_pick_t rfl rfl g1 rfl) ?_
  refine At.nil ?_
  refine At.next ?_
  refine At.cond rfl (fun _ => ?_) (fun h => absurd (h.symm.trans rfl) (by decide))
  refine At.seq ?_
  refine At.region ?_
  refine At.p (some 4) (P_assign rfl rfl) ?_
  refine At.nil ?_
  refine At.next ?_
  refine At.ret ?_
  refine At.thn_r ?_
  refine At.empty 990 0 5 ?_
  have hq0 : ([] : List (BitVec 8)) = tkT key id := (tk_f (by omega)).symm
  refine At.give (.inl rfl) [990] (rows' := [_]) (vs := [_]) rfl ⟨rfl, trivial⟩ rfl (by simp) (by simp) ⟨none, 0, 0, (fun h => absurd h (Nat.lt_irrefl 0)), (by rw [← hq0]; exact Nat.le_refl _), (by first | (rw [hq0]; try rfl; done) | (rw [← hq0]; try rfl; done) | (simp only [hq0]; try rfl; done) | (simp only [← hq0]; try rfl; done) | rfl), (by first | (rw [hq0]; try rfl; done) | (rw [← hq0]; try rfl; done) | (simp only [hq0]; try rfl; done) | (simp only [← hq0]; try rfl; done) | rfl)⟩


end Go.Proofs.Ytihciioopdalnaa

