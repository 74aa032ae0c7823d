import Derived.Test.YtcjfkmhijfcciaaXT2
import Derived.Test.YtcjfkmhijfcciaaXS2
import Derived.Test.YtcjfkmhijfcciaaG1
namespace Go.Proofs.Ytcjfkmhijfcciaa
set_option maxRecDepth 20000
set_option linter.unusedVariables false
set_option linter.unusedSimpArgs false
open Go.SE Go.RowKit
/-- A number of bytes, the highest first. -/
def beI : List (BitVec 8) → Nat → Nat
 | [], a => a
 | x :: l, a => beI l (a * 256 + x.toNat)
theorem beI_app : ∀ (l l' : List (BitVec 8)) (a : Nat), beI (l ++ l') a = beI l' (beI l a)
 | [], _, _ => rfl
 | x :: l, l', a => beI_app l l' (a * 256 + x.toNat)
theorem beI_lt : ∀ (l : List (BitVec 8)) (a k : Nat), a < 256 ^ k → beI l a < 256 ^ (k + l.length)
 | [], a, k, h => h
 | x :: l, a, k, h => by
  have hx := x.isLt
  have h1 : a * 256 + x.toNat < 256 ^ (k + 1) := by rw [Nat.pow_succ]; omega
  have := beI_lt l _ (k + 1) h1
  rw [show k + 1 + l.length = k + (x :: l).length by rw [List.length_cons]; omega] at this
  exact this
def beN (w n : Nat) : List (BitVec 8) := (List.range w).map fun k => BitVec.ofInt 8 ((n : Int) / 2 ^ (8 * (w - 1 - k)))
@[simp] theorem beN_len (w n : Nat) : (beN w n).length = w := by simp [beN]
theorem beN_succ {w k n : Nat} (h : k < w) : (beN w n).take (k + 1) = (beN w n).take k ++ [BitVec.ofInt 8 ((n : Int) / 2 ^ (8 * (w - 1 - k)))] := by
 rw [List.take_succ_eq_append_getElem (by rw [beN_len]; exact h)]
 simp [beN]
theorem P_cast {P : Program} {fr : Fr} {o : Oper} {v v' : Value} (h : v = v') (q : PStep P fr o v) : PStep P fr o v' := h ▸ q
theorem beI_take {l : List (BitVec 8)} {k : Nat} (h : k < l.length) : beI (l.take (k + 1)) 0 = beI (l.take k) 0 * 256 + (l.getD k 0#8).toNat := by
 rw [List.take_succ_eq_append_getElem h, beI_app, List.getD_eq_getElem?_getD, List.getElem?_eq_getElem h]
 rfl
theorem beI_lt4 {l : List (BitVec 8)} (h : l.length ≤ 4) : beI l 0 < 4294967296 := by
 have h1 := beI_lt l 0 0 (by decide)
 have h2 : 256 ^ (0 + l.length) ≤ 256 ^ 4 := Nat.pow_le_pow_right (by decide) (by omega)
 omega
theorem shl8b {a : Nat} (h : a < 4294967296) : -9223372036854775808 ≤ (a : Int) * 2 ^ (8 : Int).toNat ∧ (a : Int) * 2 ^ (8 : Int).toNat ≤ 9223372036854775807 := by
 have : ((2 : Int) ^ (8 : Int).toNat) = 256 := by decide
 rw [this]
 omega
theorem P_neq_slnil {P : Program} {fr : Fr} {o : Oper} {x y : Operand} {ty : TypeId} {t e : TypeId} {b n c n' c' : Nat} {q : Nat} (ho : o.op = .binOp .neq t x y ty) (ht : P.underlying t = some (.slice e)) (hx : fr.ev x = some (.slice (some ⟨b, q, none⟩) n c)) (hy : fr.ev y = some (.slice none n' c')) : PStep P fr o (.bool true) := by
 intro a ha w
 have h : (Op.equal t (.slice (some ⟨b, q, none⟩) n c) (.slice none n' c')).run P w = .ok false w := by
  have h : ∀ d, (Op.equalIn (d + 1) t (.slice (some ⟨b, q, none⟩) n c) (.slice none n' c')).run P w = .ok false w := fun d => by simp [Op.equalIn, run_underlying ht]
  exact h 9999
 unfold execOp
 simp [ho, ha.ev hx, ha.ev hy, eqGuard, binOp, h]
/-- Numbers of two bytes, side by side. -/
def nsB (ns : List Int) : List (BitVec 8) := ns.flatMap fun e => beN 2 e.toNat
@[simp] theorem nsB_len (ns : List Int) : (nsB ns).length = 2 * ns.length := by
 induction ns with
 | nil => rfl
 | cons x l ih =>
  show (beN 2 x.toNat ++ nsB l).length = _
  rw [List.length_append, beN_len, ih, List.length_cons]
  omega
theorem nsB_take {ns : List Int} {k m : Nat} (h : k < ns.length) (hm : ns.getD k 0 = (m : Int)) : nsB (ns.take (k + 1)) = nsB (ns.take k) ++ beN 2 m := by
 rw [List.take_succ_eq_append_getElem h, nsB, List.flatMap_append]
 have : ns[k] = (m : Int) := by rw [← hm, List.getD_eq_getElem?_getD, List.getElem?_eq_getElem h]; rfl
 rw [this]
 simp [nsB]
theorem nsNat {ns : List Int} (h : ∀ e ∈ ns, 0 ≤ e ∧ e < 65536) {k : Nat} (hk : k < ns.length) : ∃ m : Nat, ns.getD k 0 = (m : Int) ∧ m < 65536 := by
 have h1 := h ns[k] (List.getElem_mem hk)
 refine ⟨ns[k].toNat, ?_, by omega⟩
 rw [List.getD_eq_getElem?_getD, List.getElem?_eq_getElem hk]
 show ns[k] = _
 omega
/-- A client's greeting: the versions' extension, and all of it. -/
def extB (vs : List Int) : List (BitVec 8) := beN 2 43 ++ (beN 2 (1 + 2 * vs.length) ++ ((beN 1 (2 * vs.length) ++ (nsB vs ++ [])) ++ []))
def helloB (rnd sess : List (BitVec 8)) (su : List Int) (m : Nat) (X : List (BitVec 8)) : List (BitVec 8) := beN 2 771 ++ (rnd ++ (beN 1 sess.length ++ (sess ++ (beN 2 (2 * su.length) ++ (nsB su ++ (beN 1 1 ++ ([0#8] ++ (beN 2 m ++ (X ++ [])))))))))
@[simp] theorem extB_len (vs : List Int) : (extB vs).length = 5 + 2 * vs.length := by
 simp [extB]
 omega
theorem beI_beN1 {n : Nat} (h : n < 256) : beI (beN 1 n) 0 = n := by
 simp [beN, beI]
 omega
theorem beI_beN2 {n : Nat} (h : n < 65536) : beI (beN 2 n) 0 = n := by
 simp [beN, beI, List.range, List.range.loop]
 omega
theorem beI_beN3 {n : Nat} (h : n < 16777216) : beI (beN 3 n) 0 = n := by
 simp [beN, beI, List.range, List.range.loop]
 omega
theorem nsB_drop {ns : List Int} {k m : Nat} (h : k < ns.length) (hm : ns.getD k 0 = (m : Int)) : nsB (ns.drop k) = beN 2 m ++ nsB (ns.drop (k + 1)) := by
 rw [List.drop_eq_getElem_cons h, nsB, List.flatMap_cons]
 have : ns[k] = (m : Int) := by rw [← hm, List.getD_eq_getElem?_getD, List.getElem?_eq_getElem h]; rfl
 rw [this]
 rfl
theorem nsB_dropv (ns : List Int) (k : Nat) (h : k ≤ ns.length) : (nsB ns).drop (2 * k) = nsB (ns.drop k) := by
 have h1 : nsB ns = nsB (ns.take k) ++ nsB (ns.drop k) := by rw [nsB, nsB, nsB, ← List.flatMap_append, List.take_append_drop]
 rw [h1]
 exact List.drop_left' (by rw [nsB_len, List.length_take]; omega)
theorem dropS {α : Type} {B a rest : List α} {j n : Nat} (h : B.drop j = a ++ rest) (ha : a.length = n) : B.drop (j + n) = rest := by
 rw [← List.drop_drop, h]
 exact List.drop_left' ha
theorem viewS {α : Type} {B r : List α} {j : Nat} (h : B.drop j = r) : r = (B.drop j).take r.length := by rw [h, List.take_length]
theorem take_succ_i {ns : List Int} {k m : Nat} (h : k < ns.length) (hm : ns.getD k 0 = (m : Int)) : ns.take k ++ [(m : Int)] = ns.take (k + 1) := by
 rw [List.take_succ_eq_append_getElem h]
 have : ns[k] = (m : Int) := by rw [← hm, List.getD_eq_getElem?_getD, List.getElem?_eq_getElem h]; rfl
 rw [this]

attribute [local irreducible] sumS
set_option maxHeartbeats 2000000 in
theorem c_BEq {a : List (BitVec 8)} {Aa : Option Addr} {na ca ba qa : Nat} {b : List (BitVec 8)} {Ab : Option Addr} {nb cb bb qb : Nat} (hna : a.length = na) (hAa : 0 < na → Aa = some ⟨ba, qa, none⟩) (hnb : b.length = nb) (hAb : 0 < nb → Ab = some ⟨bb, qb, none⟩) (hl : na ≤ 1000000) :
  Con Try.prog 46 [.slice Aa na ca, .slice Ab nb cb] [pRow ba qa a, pRow bb qb b] (fun v rs => v = .bool (decide (a = b)) ∧ rs = []) := by
 refine Con.enter Try.func46 Try.ntmps46 (Nat.le_of_ble_eq_true rfl) rfl fun w => ?_
 refine At.seq ?_
 refine At.region ?_
 refine At.p (some 4) (P_assign rfl rfl) ?_
 refine At.nil ?_
 refine At.next ?_
 refine At.seq ?_
 refine At.region ?_
 refine At.p (some 5) (P_move rfl rfl) ?_
 refine At.q (some 6) (Q_strA (l := a) (n := na) (k := 0) LN rfl Try.underlying23 Try.underlying5 Try.underlying9 rfl hAa (fun _ => ⟨rfl, rfl, rfl⟩)) ?_
 refine At.p (some 7) (P_move rfl rfl) ?_
 refine At.q (some 8) (Q_strA (l := b) (n := nb) (k := 1) LN rfl Try.underlying23 Try.underlying5 Try.underlying9 rfl hAb (fun _ => ⟨rfl, rfl, rfl⟩)) ?_
 refine At.p (some 9) (P_eql_str (a := a) (b := b) rfl rfl rfl) ?_
 refine At.p (some 4) (P_assign rfl rfl) ?_
 refine At.nil ?_
 refine At.next ?_
 refine At.ret ?_
 refine At.give (.inl rfl) [] (rows' := []) (vs := [_]) rfl ⟨rfl, trivial⟩ rfl (by simp) (by simp) ⟨rfl, rfl⟩

set_option maxHeartbeats 2000000 in
theorem c_BClone {b : List (BitVec 8)} {Ab : Option Addr} {nb cb bb qb : Nat} (hnb : b.length = nb) (hAb : 0 < nb → Ab = some ⟨bb, qb, none⟩) (hl : nb ≤ 1000000) :
  Con Try.prog 38 [.slice Ab nb cb] [pRow bb qb b] (fun v rs => ∃ (A' : Option Addr) (b' c' : Nat), (0 < c' → A' = some ⟨b', 0, none⟩) ∧ b.length ≤ c' ∧ v = .slice A' b.length c' ∧ rs = [⟨true, b', 0, 5, (b).map u8V, c' - (b).length⟩]) := by
 refine Con.enter Try.func38 Try.ntmps38 (Nat.le_of_ble_eq_true rfl) rfl fun w => ?_
 refine At.seq ?_
 refine At.region ?_
 refine At.p (some 2) (P_assign rfl rfl) ?_
 refine At.nil ?_
 refine At.next ?_
 refine At.seq ?_
 refine At.seq ?_
 refine At.region ?_
 refine At.p (some 3) (P_move rfl rfl) ?_
 refine At.p (some 4) (P_eql_slnil rfl Try.underlying23 rfl rfl) ?_
 refine At.nil ?_
 refine At.next ?_
 refine At.cond rfl (fun h4 => ?_) (fun h4 => ?_)
 · -- cond 4 t
  refine At.seq ?_
  refine At.region ?_
  refine At.p (some 2) (P_assign rfl rfl) ?_
  refine At.nil ?_
  refine At.next ?_
  refine At.ret ?_
  refine At.thn_r ?_
  refine At.empty 990 0 5 ?_
  have hq0 : ([] : List (BitVec 8)) = b := (by have h0 : nb = 0 := Nat.eq_zero_of_not_pos (fun h => by have h2 := hAb h; rw [h2] at h4; cases h4); exact (List.eq_nil_of_length_eq_zero (hnb.trans h0)).symm)
  refine At.give (.inl rfl) [990] (rows' := [_]) (vs := [_]) rfl ⟨rfl, trivial⟩ rfl (by simp) (by simp) ⟨none, 0, 0, (fun h => absurd h (Nat.lt_irrefl 0)), (by rw [← hq0]; exact Nat.le_refl _), (by first | (rw [hq0]; try rfl; done) | (rw [← hq0]; try rfl; done) | (simp only [hq0]; try rfl; done) | (simp only [← hq0]; try rfl; done) | rfl), (by first | (rw [hq0]; try rfl; done) | (rw [← hq0]; try rfl; done) | (simp only [hq0]; try rfl; done) | (simp only [← hq0]; try rfl; done) | rfl)⟩
 · -- cond 4 f
  refine At.skip ?_
  refine At.next ?_
  refine At.seq ?_
  refine At.region ?_
  refine At.s (S_buildSlice0 (some 5) 5 rfl Try.underlying23 sz5 (fun b5 => ?_))
  refine At.p (some 6) (P_move rfl rfl) ?_
  refine At.s (S_appendM (some 7) 5 (b) (f := u8V) (l := []) (L := b) (m := nb) rfl Try.underlying23 Try.underlying23 (.inr ⟨_, rfl⟩) sz5 by5 ze5 rfl rfl (fun h => ⟨rfl, rfl⟩) LN OG (Src.all (k := 0) (l := b) rfl hAb (fun _ => ⟨rfl, rfl, rfl⟩) LN) (fun _ => rfl) OG OG rfl LN ?_)
  intro A7 b7 c7 g7a g7b
  refine At.p (some 2) (P_assign rfl rfl) ?_
  refine At.nil ?_
  refine At.next ?_
  refine At.ret ?_
  refine At.give (.inl rfl) [5] (rows' := [_]) (vs := [_]) rfl ⟨rfl, trivial⟩ rfl (by simp) (by simp) ⟨A7, b7, c7, g7a, (by first | omega | (simp; done) | (simp <;> omega) | exact Nat.le_refl _), rfl, rfl⟩

set_option maxHeartbeats 2000000 in
theorem k_right {wd : Nat} (hw : 1 ≤ wd) (hw4 : wd ≤ 4) :
  Con Try.prog 87 [iV (wd : Int)] [] (fun v rs => v = .bool true ∧ rs = []) := by
 refine Con.enter Try.func87 Try.ntmps87 (Nat.le_of_ble_eq_true rfl) rfl fun w => ?_
 refine At.seq ?_
 refine At.region ?_
 refine At.p (some 2) (P_assign rfl rfl) ?_
 refine At.nil ?_
 refine At.next ?_
 refine At.seq ?_
 refine At.region ?_
 refine At.p (some 3) (P_move rfl rfl) ?_
 refine At.p (some 4) (P_cmp rfl rfl rfl rfl rfl rfl) ?_
 refine At.p (some 5) (P_move rfl rfl) ?_
 refine At.gy (t := 5) rfl (decide_eq_true (by omega)) rfl rfl ?_
 refine At.p (some 6) (P_move rfl rfl) ?_
 refine At.gy (t := 5) rfl (decide_eq_true (by omega)) rfl rfl ?_
 refine At.p (some 7) (P_cmp rfl rfl rfl rfl rfl rfl) ?_
 refine At.p (some 8) (P_pick_t rfl rfl (decide_eq_true (by omega)) rfl) ?_
 refine At.p (some 2) (P_assign rfl rfl) ?_
 refine At.nil ?_
 refine At.next ?_
 refine At.ret ?_
 have hq0 : (decide ((wd : Int) ≤ 4)) = true := (decide_eq_true (by omega))
 refine At.give (.inl rfl) [] (rows' := []) (vs := [_]) rfl ⟨rfl, trivial⟩ rfl (by simp) (by simp) ⟨(by first | (rw [hq0]; try rfl; done) | (rw [← hq0]; try rfl; done) | (simp only [hq0]; try rfl; done) | (simp only [← hq0]; try rfl; done) | rfl), (by first | (rw [hq0]; try rfl; done) | (rw [← hq0]; try rfl; done) | (simp only [hq0]; try rfl; done) | (simp only [← hq0]; try rfl; done) | rfl)⟩

set_option maxHeartbeats 2000000 in
theorem k_PutUint1 {b : List (BitVec 8)} {Ab : Option Addr} {nb cb bb qb : Nat} {n : Nat} (hnb : b.length = nb) (hAb : 0 < nb → Ab = some ⟨bb, qb, none⟩) (hl : nb ≤ 1000000) (hn : n < 256) :
  Con Try.prog 37 [.slice Ab nb cb, iV (n : Int), iV 1] [pRow bb qb b] (fun v rs => ∃ (A' : Option Addr) (b' c' : Nat), (0 < c' → A' = some ⟨b', 0, none⟩) ∧ (b ++ beN 1 n).length ≤ c' ∧ v = .slice A' (b ++ beN 1 n).length c' ∧ rs = [⟨true, b', 0, 5, (b ++ beN 1 n).map u8V, c' - (b ++ beN 1 n).length⟩]) := by
 refine Con.enter Try.func37 Try.ntmps37 (Nat.le_of_ble_eq_true rfl) rfl fun w => ?_
 refine At.seq ?_
 refine At.region ?_
 refine At.p (some 6) (P_assign rfl rfl) ?_
 refine At.nil ?_
 refine At.next ?_
 refine At.seq ?_
 refine At.seq ?_
 refine At.region ?_
 refine At.p (some 9) (P_move rfl rfl) ?_
 refine At.s (S_callV (some 10) [] [] (vs := [_]) rfl en87 rfl V0 (by simp) (k_right (wd := 1) OG OG) (by rintro _ _ ⟨rfl, rfl⟩; rfl) ?_)
 rintro _ _ ⟨rfl, rfl⟩
 refine At.p (some 11) (P_not rfl rfl) ?_
 refine At.p (some 12) (P_move rfl rfl) ?_
 refine At.gy (t := 12) rfl rfl rfl rfl ?_
 refine At.p (some 13) (P_move rfl rfl) ?_
 refine At.gy (t := 12) rfl rfl rfl rfl ?_
 refine At.p (some 14) (P_cmp rfl rfl rfl rfl rfl rfl) ?_
 refine At.p (some 15) (P_pick_f rfl rfl rfl rfl) ?_
 refine At.p (some 16) (P_move rfl rfl) ?_
 refine At.gy (t := 16) rfl (decide_eq_false (by omega)) rfl rfl ?_
 refine At.p (some 17) (P_move rfl rfl) ?_
 refine At.gy (t := 16) rfl (decide_eq_false (by omega)) rfl rfl ?_
 refine At.p (some 18) (P_move rfl rfl) ?_
 refine At.gy (t := 16) rfl (decide_eq_false (by omega)) rfl rfl ?_
 refine At.p (some 19) (P_mul_i rfl rfl rfl (by omega)) ?_
 refine At.gy (t := 16) rfl (decide_eq_false (by omega)) rfl rfl ?_
 refine At.p (some 20) (P_cast (congrArg iV (show (1 : Int) * 2 ^ ((8 * 1 : Int)).toNat = 256 by decide)) (P_shl_i (a := 1) (b := 8 * 1) rfl rfl rfl (by decide) (by decide) (by decide))) ?_
 refine At.gy (t := 16) rfl (decide_eq_false (by omega)) rfl rfl ?_
 refine At.p (some 21) (P_cmp rfl rfl rfl rfl rfl rfl) ?_
 refine At.p (some 22) (P_pick_f rfl rfl (decide_eq_false (by omega)) rfl) ?_
 refine At.nil ?_
 refine At.next ?_
 refine At.cond rfl (fun h22 => by have := of_decide_eq_true h22; omega) (fun h22 => ?_)
 have e22 : ¬ (n : Int) ≥ 256 := of_decide_eq_false h22
 refine At.skip ?_
 refine At.next ?_
 refine At.seq ?_
 refine At.region ?_
 refine At.p (some 23) (P_move rfl rfl) ?_
 refine At.s (S_callV (some 24) [(0, _)] [24] (vs := [_]) rfl en38 rfl (VN (by simp) rfl View.all V0) (by simp) (c_BClone (b := b) (nb := nb) (Ab := Ab) (cb := cb) (bb := bb) (qb := qb) LN hAb OG) (by rintro _ _ ⟨A24, b24, c24, g24a, g24b, rfl, rfl⟩; rfl) ?_)
 rintro _ _ ⟨A24, b24, c24, g24a, g24b, rfl, rfl⟩
 refine At.p (some 7) (P_assign rfl rfl) ?_
 refine At.nil ?_
 refine At.next ?_
 refine At.seq ?_
 refine At.seq ?_
 refine At.region ?_
 refine At.p (some 25) (P_move rfl rfl) ?_
 refine At.p (some 26) (P_sub_i rfl rfl rfl (by omega)) ?_
 refine At.p (some 8) (P_assign rfl rfl) ?_
 refine At.nil ?_
 refine At.next ?_
 refine At.block ?_
 refine At.loopx (I := fun m fr H => ∃ (k : Nat) (A7 : Option Addr) (b7 c7 : Nat), m = 2 * (1 - k) ∧ fr = frOf [(0, .slice Ab nb cb), (1, iV (n : Int)), (2, iV 1), (6, .slice none 0 0), (7, .slice A7 ((b ++ (beN 1 n).take k).length) c7), (8, iV ((1 : Int) - 1 - (k : Int))), (9, iV 1), (10, .bool true), (11, .bool (!true)), (12, .bool (!true)), (13, iV (n : Int)), (14, .bool (decide ((n : Int) < 0))), (15, .bool (decide ((n : Int) < 0))), (16, .bool (decide ((n : Int) < 0))), (17, iV (n : Int)), (18, iV 1), (19, iV (8 * 1)), (20, iV 256), (21, .bool (decide ((n : Int) ≥ 256))), (22, .bool (decide ((n : Int) ≥ 256))), (23, .slice Ab nb cb), (24, .slice A24 b.length c24), (25, iV 1), (26, iV (1 - 1))] ∧ H = hOf [(0, pRow bb qb b), (24, ⟨true, b7, 0, 5, ((b ++ (beN 1 n).take k)).map u8V, c7 - ((b ++ (beN 1 n).take k)).length⟩)] ∧ (0 < c7 → A7 = some ⟨b7, 0, none⟩) ∧ ((b ++ (beN 1 n).take k).length ≤ c7) ∧ (k ≤ 1)) ?_ ?_
 ·
  intro Kc0 hKc0
  refine At.to [(0, _), (1, _), (2, _), (6, _), (7, .slice A24 ((b ++ (beN 1 n).take 0).length) c24), (8, iV ((1 : Int) - 1 - ((0 : Nat) : Int))), (9, _), (10, _), (11, _), (12, _), (13, _), (14, _), (15, _), (16, _), (17, _), (18, _), (19, _), (20, _), (21, _), (22, _), (23, _), (24, _), (25, _), (26, _)] [(0, _), (24, ⟨true, b24, 0, 5, ((b ++ (beN 1 n).take 0)).map u8V, c24 - ((b ++ (beN 1 n).take 0)).length⟩)] (AllL.cons_ (rfl) (AllL.cons_ (rfl) (AllL.cons_ (rfl) (AllL.cons_ (rfl) (AllL.cons_ ((by rw [List.take_zero, List.append_nil]; rfl)) (AllL.cons_ ((congrArg (fun z : Int => some (iV z)) (by omega))) (AllL.cons_ (rfl) (AllL.cons_ (rfl) (AllL.cons_ (rfl) (AllL.cons_ (rfl) (AllL.cons_ (rfl) (AllL.cons_ (rfl) (AllL.cons_ (rfl) (AllL.cons_ (rfl) (AllL.cons_ (rfl) (AllL.cons_ (rfl) (AllL.cons_ (rfl) (AllL.cons_ (rfl) (AllL.cons_ (rfl) (AllL.cons_ (rfl) (AllL.cons_ (rfl) (AllL.cons_ (rfl) (AllL.cons_ (rfl) (AllL.cons_ (rfl) trivial)))))))))))))))))))))))) (AllL.cons_ (rfl) (AllL.cons_ ((by rw [List.take_zero, List.append_nil]; rfl)) trivial)) ?_
  exact hKc0 _ _ _ ⟨0, A24, b24, c24, rfl, rfl, rfl, g24a, (by first | omega | (simp; done) | (simp <;> omega) | exact Nat.le_refl _), (by omega)⟩
 ·
  rintro m fr H ⟨k, A7, b7, c7, rfl, rfl, rfl, g7a, g7b, hk⟩ Kc0 hKc0
  have hbl := beN_len 1 n
  have htl : ((beN 1 n).take k).length = k := by rw [List.length_take]; omega
  refine At.seq ?_
  refine At.seq ?_
  refine At.region ?_
  refine At.p (some 27) (P_move rfl rfl) ?_
  refine At.p (some 28) (P_cmp rfl rfl rfl rfl rfl rfl) ?_
  refine At.nil ?_
  refine At.next ?_
  refine At.cond rfl (fun h28 => ?_) (fun h28 => ?_)
  · -- cond 28 t
   have e28 : ((1 : Int) - 1 - (k : Int)) ≥ 0 := of_decide_eq_true h28
   refine At.skip ?_
   refine At.next ?_
   refine At.seq ?_
   refine At.block ?_
   refine At.region ?_
   refine At.p (some 31) (P_move rfl rfl) ?_
   refine At.p (some 32) (P_move rfl rfl) ?_
   refine At.p (some 33) (P_move rfl rfl) ?_
   refine At.p (some 34) (P_mul_i rfl rfl rfl (by omega)) ?_
   refine At.p (some 35) (P_shr_i rfl rfl rfl (by first | decide | omega) (by first | decide | omega)) ?_
   refine At.p (some 36) (P_conv_iw UK.u8 rfl Try.underlying3 Try.underlying5 rfl) ?_
   refine At.s (S_buildSliceV (some 37) 37 (([(BitVec.ofInt 8 ((n : Int) / 2 ^ ((8 * ((1 : Int) - 1 - (k : Int))) : Int).toNat))]).map u8V) rfl Try.underlying23 sz5 ze5 rfl rfl (by decide) (by decide) rfl rfl (fun b37 => ?_))
   refine At.s (S_appendM (some 38) 24 ((b ++ (beN 1 n).take (k + 1))) (f := u8V) (l := (b ++ (beN 1 n).take k)) (L := [(BitVec.ofInt 8 ((n : Int) / 2 ^ ((8 * ((1 : Int) - 1 - (k : Int))) : Int).toNat))]) (m := 1) rfl Try.underlying23 Try.underlying23 (.inr ⟨_, rfl⟩) sz5 by5 ze5 rfl rfl (fun h => ⟨g7a h, rfl⟩) LN OG (Src.all (k := 37) (l := [(BitVec.ofInt 8 ((n : Int) / 2 ^ ((8 * ((1 : Int) - 1 - (k : Int))) : Int).toNat))]) rfl (fun _ => rfl) (fun _ => ⟨rfl, rfl, rfl⟩) LN) (fun _ => rfl) OG OG (by rw [beN_succ (by omega), List.append_assoc, show (8 * ((1 : Int) - 1 - (k : Int))).toNat = 8 * (1 - 1 - k) by omega]) LN ?_)
   intro A38 b38 c38 g38a g38b
   refine At.p (some 7) (P_assign rfl rfl) ?_
   refine At.nil ?_
   refine At.inb_n ?_
   refine At.next ?_
   refine At.region ?_
   refine At.p (some 29) (P_move rfl rfl) ?_
   refine At.p (some 30) (P_sub_i rfl rfl rfl (by omega)) ?_
   refine At.p (some 8) (P_assign rfl rfl) ?_
   refine At.nil ?_
   refine At.next ?_
   refine At.to [(0, _), (1, _), (2, _), (6, _), (7, _), (8, iV ((1 : Int) - 1 - ((k + 1 : Nat) : Int))), (9, _), (10, _), (11, _), (12, _), (13, _), (14, _), (15, _), (16, _), (17, _), (18, _), (19, _), (20, _), (21, _), (22, _), (23, _), (24, _), (25, _), (26, _)] [(0, _), (24, _)] (AllL.cons_ (rfl) (AllL.cons_ (rfl) (AllL.cons_ (rfl) (AllL.cons_ (rfl) (AllL.cons_ (rfl) (AllL.cons_ ((congrArg (fun z : Int => some (iV z)) (by omega))) (AllL.cons_ (rfl) (AllL.cons_ (rfl) (AllL.cons_ (rfl) (AllL.cons_ (rfl) (AllL.cons_ (rfl) (AllL.cons_ (rfl) (AllL.cons_ (rfl) (AllL.cons_ (rfl) (AllL.cons_ (rfl) (AllL.cons_ (rfl) (AllL.cons_ (rfl) (AllL.cons_ (rfl) (AllL.cons_ (rfl) (AllL.cons_ (rfl) (AllL.cons_ (rfl) (AllL.cons_ (rfl) (AllL.cons_ (rfl) (AllL.cons_ (rfl) trivial)))))))))))))))))))))))) (AllL.cons_ (rfl) (AllL.cons_ (rfl) trivial)) ?_
   exact hKc0 _ _ _ (by omega) ⟨k + 1, A38, b38, c38, rfl, rfl, rfl, g38a, (by first | omega | (simp; done) | (simp <;> omega) | exact Nat.le_refl _), (by omega)⟩
  · -- cond 28 f
   have e28 : ¬ ((1 : Int) - 1 - (k : Int)) ≥ 0 := of_decide_eq_false h28
   refine At.exit ?_
   refine At.thn_e ?_
   refine At.thn_e ?_
   refine At.inb_hit ?_
   refine At.next ?_
   refine At.seq ?_
   refine At.region ?_
   refine At.p (some 39) (P_move rfl rfl) ?_
   refine At.p (some 6) (P_assign rfl rfl) ?_
   refine At.nil ?_
   refine At.next ?_
   refine At.ret ?_
   have hq0 : (b ++ (beN 1 n).take k) = b ++ beN 1 n := (by rw [show k = 1 by omega, List.take_of_length_le (Nat.le_of_eq (beN_len _ _))])
   refine At.give (.inl rfl) [24] (rows' := [_]) (vs := [_]) rfl ⟨rfl, trivial⟩ rfl (by simp) (by simp) ⟨A7, b7, c7, g7a, (by rw [← hq0]; first | omega | (simp; done) | (simp <;> omega) | exact Nat.le_refl _), (by first | (rw [hq0]; try rfl; done) | (rw [← hq0]; try rfl; done) | (simp only [hq0]; try rfl; done) | (simp only [← hq0]; try rfl; done) | rfl), (by first | (rw [hq0]; try rfl; done) | (rw [← hq0]; try rfl; done) | (simp only [hq0]; try rfl; done) | (simp only [← hq0]; try rfl; done) | rfl)⟩

set_option maxHeartbeats 2000000 in
theorem k_PutUint2 {b : List (BitVec 8)} {Ab : Option Addr} {nb cb bb qb : Nat} {n : Nat} (hnb : b.length = nb) (hAb : 0 < nb → Ab = some ⟨bb, qb, none⟩) (hl : nb ≤ 1000000) (hn : n < 65536) :
  Con Try.prog 37 [.slice Ab nb cb, iV (n : Int), iV 2] [pRow bb qb b] (fun v rs => ∃ (A' : Option Addr) (b' c' : Nat), (0 < c' → A' = some ⟨b', 0, none⟩) ∧ (b ++ beN 2 n).length ≤ c' ∧ v = .slice A' (b ++ beN 2 n).length c' ∧ rs = [⟨true, b', 0, 5, (b ++ beN 2 n).map u8V, c' - (b ++ beN 2 n).length⟩]) := by
 refine Con.enter Try.func37 Try.ntmps37 (Nat.le_of_ble_eq_true rfl) rfl fun w => ?_
 refine At.seq ?_
 refine At.region ?_
 refine At.p (some 6) (P_assign rfl rfl) ?_
 refine At.nil ?_
 refine At.next ?_
 refine At.seq ?_
 refine At.seq ?_
 refine At.region ?_
 refine At.p (some 9) (P_move rfl rfl) ?_
 refine At.s (S_callV (some 10) [] [] (vs := [_]) rfl en87 rfl V0 (by simp) (k_right (wd := 2) OG OG) (by rintro _ _ ⟨rfl, rfl⟩; rfl) ?_)
 rintro _ _ ⟨rfl, rfl⟩
 refine At.p (some 11) (P_not rfl rfl) ?_
 refine At.p (some 12) (P_move rfl rfl) ?_
 refine At.gy (t := 12) rfl rfl rfl rfl ?_
 refine At.p (some 13) (P_move rfl rfl) ?_
 refine At.gy (t := 12) rfl rfl rfl rfl ?_
 refine At.p (some 14) (P_cmp rfl rfl rfl rfl rfl rfl) ?_
 refine At.p (some 15) (P_pick_f rfl rfl rfl rfl) ?_
 refine At.p (some 16) (P_move rfl rfl) ?_
 refine At.gy (t := 16) rfl (decide_eq_false (by omega)) rfl rfl ?_
 refine At.p (some 17) (P_move rfl rfl) ?_
 refine At.gy (t := 16) rfl (decide_eq_false (by omega)) rfl rfl ?_
 refine At.p (some 18) (P_move rfl rfl) ?_
 refine At.gy (t := 16) rfl (decide_eq_false (by omega)) rfl rfl ?_
 refine At.p (some 19) (P_mul_i rfl rfl rfl (by omega)) ?_
 refine At.gy (t := 16) rfl (decide_eq_false (by omega)) rfl rfl ?_
 refine At.p (some 20) (P_cast (congrArg iV (show (1 : Int) * 2 ^ ((8 * 2 : Int)).toNat = 65536 by decide)) (P_shl_i (a := 1) (b := 8 * 2) rfl rfl rfl (by decide) (by decide) (by decide))) ?_
 refine At.gy (t := 16) rfl (decide_eq_false (by omega)) rfl rfl ?_
 refine At.p (some 21) (P_cmp rfl rfl rfl rfl rfl rfl) ?_
 refine At.p (some 22) (P_pick_f rfl rfl (decide_eq_false (by omega)) rfl) ?_
 refine At.nil ?_
 refine At.next ?_
 refine At.cond rfl (fun h22 => by have := of_decide_eq_true h22; omega) (fun h22 => ?_)
 have e22 : ¬ (n : Int) ≥ 65536 := of_decide_eq_false h22
 refine At.skip ?_
 refine At.next ?_
 refine At.seq ?_
 refine At.region ?_
 refine At.p (some 23) (P_move rfl rfl) ?_
 refine At.s (S_callV (some 24) [(0, _)] [24] (vs := [_]) rfl en38 rfl (VN (by simp) rfl View.all V0) (by simp) (c_BClone (b := b) (nb := nb) (Ab := Ab) (cb := cb) (bb := bb) (qb := qb) LN hAb OG) (by rintro _ _ ⟨A24, b24, c24, g24a, g24b, rfl, rfl⟩; rfl) ?_)
 rintro _ _ ⟨A24, b24, c24, g24a, g24b, rfl, rfl⟩
 refine At.p (some 7) (P_assign rfl rfl) ?_
 refine At.nil ?_
 refine At.next ?_
 refine At.seq ?_
 refine At.seq ?_
 refine At.region ?_
 refine At.p (some 25) (P_move rfl rfl) ?_
 refine At.p (some 26) (P_sub_i rfl rfl rfl (by omega)) ?_
 refine At.p (some 8) (P_assign rfl rfl) ?_
 refine At.nil ?_
 refine At.next ?_
 refine At.block ?_
 refine At.loopx (I := fun m fr H => ∃ (k : Nat) (A7 : Option Addr) (b7 c7 : Nat), m = 2 * (2 - k) ∧ fr = frOf [(0, .slice Ab nb cb), (1, iV (n : Int)), (2, iV 2), (6, .slice none 0 0), (7, .slice A7 ((b ++ (beN 2 n).take k).length) c7), (8, iV ((2 : Int) - 1 - (k : Int))), (9, iV 2), (10, .bool true), (11, .bool (!true)), (12, .bool (!true)), (13, iV (n : Int)), (14, .bool (decide ((n : Int) < 0))), (15, .bool (decide ((n : Int) < 0))), (16, .bool (decide ((n : Int) < 0))), (17, iV (n : Int)), (18, iV 2), (19, iV (8 * 2)), (20, iV 65536), (21, .bool (decide ((n : Int) ≥ 65536))), (22, .bool (decide ((n : Int) ≥ 65536))), (23, .slice Ab nb cb), (24, .slice A24 b.length c24), (25, iV 2), (26, iV (2 - 1))] ∧ H = hOf [(0, pRow bb qb b), (24, ⟨true, b7, 0, 5, ((b ++ (beN 2 n).take k)).map u8V, c7 - ((b ++ (beN 2 n).take k)).length⟩)] ∧ (0 < c7 → A7 = some ⟨b7, 0, none⟩) ∧ ((b ++ (beN 2 n).take k).length ≤ c7) ∧ (k ≤ 2)) ?_ ?_
 ·
  intro Kc0 hKc0
  refine At.to [(0, _), (1, _), (2, _), (6, _), (7, .slice A24 ((b ++ (beN 2 n).take 0).length) c24), (8, iV ((2 : Int) - 1 - ((0 : Nat) : Int))), (9, _), (10, _), (11, _), (12, _), (13, _), (14, _), (15, _), (16, _), (17, _), (18, _), (19, _), (20, _), (21, _), (22, _), (23, _), (24, _), (25, _), (26, _)] [(0, _), (24, ⟨true, b24, 0, 5, ((b ++ (beN 2 n).take 0)).map u8V, c24 - ((b ++ (beN 2 n).take 0)).length⟩)] (AllL.cons_ (rfl) (AllL.cons_ (rfl) (AllL.cons_ (rfl) (AllL.cons_ (rfl) (AllL.cons_ ((by rw [List.take_zero, List.append_nil]; rfl)) (AllL.cons_ ((congrArg (fun z : Int => some (iV z)) (by omega))) (AllL.cons_ (rfl) (AllL.cons_ (rfl) (AllL.cons_ (rfl) (AllL.cons_ (rfl) (AllL.cons_ (rfl) (AllL.cons_ (rfl) (AllL.cons_ (rfl) (AllL.cons_ (rfl) (AllL.cons_ (rfl) (AllL.cons_ (rfl) (AllL.cons_ (rfl) (AllL.cons_ (rfl) (AllL.cons_ (rfl) (AllL.cons_ (rfl) (AllL.cons_ (rfl) (AllL.cons_ (rfl) (AllL.cons_ (rfl) (AllL.cons_ (rfl) trivial)))))))))))))))))))))))) (AllL.cons_ (rfl) (AllL.cons_ ((by rw [List.take_zero, List.append_nil]; rfl)) trivial)) ?_
  exact hKc0 _ _ _ ⟨0, A24, b24, c24, rfl, rfl, rfl, g24a, (by first | omega | (simp; done) | (simp <;> omega) | exact Nat.le_refl _), (by omega)⟩
 ·
  rintro m fr H ⟨k, A7, b7, c7, rfl, rfl, rfl, g7a, g7b, hk⟩ Kc0 hKc0
  have hbl := beN_len 2 n
  have htl : ((beN 2 n).take k).length = k := by rw [List.length_take]; omega
  refine At.seq ?_
  refine At.seq ?_
  refine At.region ?_
  refine At.p (some 27) (P_move rfl rfl) ?_
  refine At.p (some 28) (P_cmp rfl rfl rfl rfl rfl rfl) ?_
  refine At.nil ?_
  refine At.next ?_
  refine At.cond rfl (fun h28 => ?_) (fun h28 => ?_)
  · -- cond 28 t
   have e28 : ((2 : Int) - 1 - (k : Int)) ≥ 0 := of_decide_eq_true h28
   refine At.skip ?_
   refine At.next ?_
   refine At.seq ?_
   refine At.block ?_
   refine At.region ?_
   refine At.p (some 31) (P_move rfl rfl) ?_
   refine At.p (some 32) (P_move rfl rfl) ?_
   refine At.p (some 33) (P_move rfl rfl) ?_
   refine At.p (some 34) (P_mul_i rfl rfl rfl (by omega)) ?_
   refine At.p (some 35) (P_shr_i rfl rfl rfl (by first | decide | omega) (by first | decide | omega)) ?_
   refine At.p (some 36) (P_conv_iw UK.u8 rfl Try.underlying3 Try.underlying5 rfl) ?_
   refine At.s (S_buildSliceV (some 37) 37 (([(BitVec.ofInt 8 ((n : Int) / 2 ^ ((8 * ((2 : Int) - 1 - (k : Int))) : Int).toNat))]).map u8V) rfl Try.underlying23 sz5 ze5 rfl rfl (by decide) (by decide) rfl rfl (fun b37 => ?_))
   refine At.s (S_appendM (some 38) 24 ((b ++ (beN 2 n).take (k + 1))) (f := u8V) (l := (b ++ (beN 2 n).take k)) (L := [(BitVec.ofInt 8 ((n : Int) / 2 ^ ((8 * ((2 : Int) - 1 - (k : Int))) : Int).toNat))]) (m := 1) rfl Try.underlying23 Try.underlying23 (.inr ⟨_, rfl⟩) sz5 by5 ze5 rfl rfl (fun h => ⟨g7a h, rfl⟩) LN OG (Src.all (k := 37) (l := [(BitVec.ofInt 8 ((n : Int) / 2 ^ ((8 * ((2 : Int) - 1 - (k : Int))) : Int).toNat))]) rfl (fun _ => rfl) (fun _ => ⟨rfl, rfl, rfl⟩) LN) (fun _ => rfl) OG OG (by rw [beN_succ (by omega), List.append_assoc, show (8 * ((2 : Int) - 1 - (k : Int))).toNat = 8 * (2 - 1 - k) by omega]) LN ?_)
   intro A38 b38 c38 g38a g38b
   refine At.p (some 7) (P_assign rfl rfl) ?_
   refine At.nil ?_
   refine At.inb_n ?_
   refine At.next ?_
   refine At.region ?_
   refine At.p (some 29) (P_move rfl rfl) ?_
   refine At.p (some 30) (P_sub_i rfl rfl rfl (by omega)) ?_
   refine At.p (some 8) (P_assign rfl rfl) ?_
   refine At.nil ?_
   refine At.next ?_
   refine At.to [(0, _), (1, _), (2, _), (6, _), (7, _), (8, iV ((2 : Int) - 1 - ((k + 1 : Nat) : Int))), (9, _), (10, _), (11, _), (12, _), (13, _), (14, _), (15, _), (16, _), (17, _), (18, _), (19, _), (20, _), (21, _), (22, _), (23, _), (24, _), (25, _), (26, _)] [(0, _), (24, _)] (AllL.cons_ (rfl) (AllL.cons_ (rfl) (AllL.cons_ (rfl) (AllL.cons_ (rfl) (AllL.cons_ (rfl) (AllL.cons_ ((congrArg (fun z : Int => some (iV z)) (by omega))) (AllL.cons_ (rfl) (AllL.cons_ (rfl) (AllL.cons_ (rfl) (AllL.cons_ (rfl) (AllL.cons_ (rfl) (AllL.cons_ (rfl) (AllL.cons_ (rfl) (AllL.cons_ (rfl) (AllL.cons_ (rfl) (AllL.cons_ (rfl) (AllL.cons_ (rfl) (AllL.cons_ (rfl) (AllL.cons_ (rfl) (AllL.cons_ (rfl) (AllL.cons_ (rfl) (AllL.cons_ (rfl) (AllL.cons_ (rfl) (AllL.cons_ (rfl) trivial)))))))))))))))))))))))) (AllL.cons_ (rfl) (AllL.cons_ (rfl) trivial)) ?_
   exact hKc0 _ _ _ (by omega) ⟨k + 1, A38, b38, c38, rfl, rfl, rfl, g38a, (by first | omega | (simp; done) | (simp <;> omega) | exact Nat.le_refl _), (by omega)⟩
  · -- cond 28 f
   have e28 : ¬ ((2 : Int) - 1 - (k : Int)) ≥ 0 := of_decide_eq_false h28
   refine At.exit ?_
   refine At.thn_e ?_
   refine At.thn_e ?_
   refine At.inb_hit ?_
   refine At.next ?_
   refine At.seq ?_
   refine At.region ?_
   refine At.p (some 39) (P_move rfl rfl) ?_
   refine At.p (some 6) (P_assign rfl rfl) ?_
   refine At.nil ?_
   refine At.next ?_
   refine At.ret ?_
   have hq0 : (b ++ (beN 2 n).take k) = b ++ beN 2 n := (by rw [show k = 2 by omega, List.take_of_length_le (Nat.le_of_eq (beN_len _ _))])
   refine At.give (.inl rfl) [24] (rows' := [_]) (vs := [_]) rfl ⟨rfl, trivial⟩ rfl (by simp) (by simp) ⟨A7, b7, c7, g7a, (by rw [← hq0]; first | omega | (simp; done) | (simp <;> omega) | exact Nat.le_refl _), (by first | (rw [hq0]; try rfl; done) | (rw [← hq0]; try rfl; done) | (simp only [hq0]; try rfl; done) | (simp only [← hq0]; try rfl; done) | rfl), (by first | (rw [hq0]; try rfl; done) | (rw [← hq0]; try rfl; done) | (simp only [hq0]; try rfl; done) | (simp only [← hq0]; try rfl; done) | rfl)⟩

set_option maxHeartbeats 2000000 in
theorem k_PutUint3 {b : List (BitVec 8)} {Ab : Option Addr} {nb cb bb qb : Nat} {n : Nat} (hnb : b.length = nb) (hAb : 0 < nb → Ab = some ⟨bb, qb, none⟩) (hl : nb ≤ 1000000) (hn : n < 16777216) :
  Con Try.prog 37 [.slice Ab nb cb, iV (n : Int), iV 3] [pRow bb qb b] (fun v rs => ∃ (A' : Option Addr) (b' c' : Nat), (0 < c' → A' = some ⟨b', 0, none⟩) ∧ (b ++ beN 3 n).length ≤ c' ∧ v = .slice A' (b ++ beN 3 n).length c' ∧ rs = [⟨true, b', 0, 5, (b ++ beN 3 n).map u8V, c' - (b ++ beN 3 n).length⟩]) := by
 refine Con.enter Try.func37 Try.ntmps37 (Nat.le_of_ble_eq_true rfl) rfl fun w => ?_
 refine At.seq ?_
 refine At.region ?_
 refine At.p (some 6) (P_assign rfl rfl) ?_
 refine At.nil ?_
 refine At.next ?_
 refine At.seq ?_
 refine At.seq ?_
 refine At.region ?_
 refine At.p (some 9) (P_move rfl rfl) ?_
 refine At.s (S_callV (some 10) [] [] (vs := [_]) rfl en87 rfl V0 (by simp) (k_right (wd := 3) OG OG) (by rintro _ _ ⟨rfl, rfl⟩; rfl) ?_)
 rintro _ _ ⟨rfl, rfl⟩
 refine At.p (some 11) (P_not rfl rfl) ?_
 refine At.p (some 12) (P_move rfl rfl) ?_
 refine At.gy (t := 12) rfl rfl rfl rfl ?_
 refine At.p (some 13) (P_move rfl rfl) ?_
 refine At.gy (t := 12) rfl rfl rfl rfl ?_
 refine At.p (some 14) (P_cmp rfl rfl rfl rfl rfl rfl) ?_
 refine At.p (some 15) (P_pick_f rfl rfl rfl rfl) ?_
 refine At.p (some 16) (P_move rfl rfl) ?_
 refine At.gy (t := 16) rfl (decide_eq_false (by omega)) rfl rfl ?_
 refine At.p (some 17) (P_move rfl rfl) ?_
 refine At.gy (t := 16) rfl (decide_eq_false (by omega)) rfl rfl ?_
 refine At.p (some 18) (P_move rfl rfl) ?_
 refine At.gy (t := 16) rfl (decide_eq_false (by omega)) rfl rfl ?_
 refine At.p (some 19) (P_mul_i rfl rfl rfl (by omega)) ?_
 refine At.gy (t := 16) rfl (decide_eq_false (by omega)) rfl rfl ?_
 refine At.p (some 20) (P_cast (congrArg iV (show (1 : Int) * 2 ^ ((8 * 3 : Int)).toNat = 16777216 by decide)) (P_shl_i (a := 1) (b := 8 * 3) rfl rfl rfl (by decide) (by decide) (by decide))) ?_
 refine At.gy (t := 16) rfl (decide_eq_false (by omega)) rfl rfl ?_
 refine At.p (some 21) (P_cmp rfl rfl rfl rfl rfl rfl) ?_
 refine At.p (some 22) (P_pick_f rfl rfl (decide_eq_false (by omega)) rfl) ?_
 refine At.nil ?_
 refine At.next ?_
 refine At.cond rfl (fun h22 => by have := of_decide_eq_true h22; omega) (fun h22 => ?_)
 have e22 : ¬ (n : Int) ≥ 16777216 := of_decide_eq_false h22
 refine At.skip ?_
 refine At.next ?_
 refine At.seq ?_
 refine At.region ?_
 refine At.p (some 23) (P_move rfl rfl) ?_
 refine At.s (S_callV (some 24) [(0, _)] [24] (vs := [_]) rfl en38 rfl (VN (by simp) rfl View.all V0) (by simp) (c_BClone (b := b) (nb := nb) (Ab := Ab) (cb := cb) (bb := bb) (qb := qb) LN hAb OG) (by rintro _ _ ⟨A24, b24, c24, g24a, g24b, rfl, rfl⟩; rfl) ?_)
 rintro _ _ ⟨A24, b24, c24, g24a, g24b, rfl, rfl⟩
 refine At.p (some 7) (P_assign rfl rfl) ?_
 refine At.nil ?_
 refine At.next ?_
 refine At.seq ?_
 refine At.seq ?_
 refine At.region ?_
 refine At.p (some 25) (P_move rfl rfl) ?_
 refine At.p (some 26) (P_sub_i rfl rfl rfl (by omega)) ?_
 refine At.p (some 8) (P_assign rfl rfl) ?_
 refine At.nil ?_
 refine At.next ?_
 refine At.block ?_
 refine At.loopx (I := fun m fr H => ∃ (k : Nat) (A7 : Option Addr) (b7 c7 : Nat), m = 2 * (3 - k) ∧ fr = frOf [(0, .slice Ab nb cb), (1, iV (n : Int)), (2, iV 3), (6, .slice none 0 0), (7, .slice A7 ((b ++ (beN 3 n).take k).length) c7), (8, iV ((3 : Int) - 1 - (k : Int))), (9, iV 3), (10, .bool true), (11, .bool (!true)), (12, .bool (!true)), (13, iV (n : Int)), (14, .bool (decide ((n : Int) < 0))), (15, .bool (decide ((n : Int) < 0))), (16, .bool (decide ((n : Int) < 0))), (17, iV (n : Int)), (18, iV 3), (19, iV (8 * 3)), (20, iV 16777216), (21, .bool (decide ((n : Int) ≥ 16777216))), (22, .bool (decide ((n : Int) ≥ 16777216))), (23, .slice Ab nb cb), (24, .slice A24 b.length c24), (25, iV 3), (26, iV (3 - 1))] ∧ H = hOf [(0, pRow bb qb b), (24, ⟨true, b7, 0, 5, ((b ++ (beN 3 n).take k)).map u8V, c7 - ((b ++ (beN 3 n).take k)).length⟩)] ∧ (0 < c7 → A7 = some ⟨b7, 0, none⟩) ∧ ((b ++ (beN 3 n).take k).length ≤ c7) ∧ (k ≤ 3)) ?_ ?_
 ·
  intro Kc0 hKc0
  refine At.to [(0, _), (1, _), (2, _), (6, _), (7, .slice A24 ((b ++ (beN 3 n).take 0).length) c24), (8, iV ((3 : Int) - 1 - ((0 : Nat) : Int))), (9, _), (10, _), (11, _), (12, _), (13, _), (14, _), (15, _), (16, _), (17, _), (18, _), (19, _), (20, _), (21, _), (22, _), (23, _), (24, _), (25, _), (26, _)] [(0, _), (24, ⟨true, b24, 0, 5, ((b ++ (beN 3 n).take 0)).map u8V, c24 - ((b ++ (beN 3 n).take 0)).length⟩)] (AllL.cons_ (rfl) (AllL.cons_ (rfl) (AllL.cons_ (rfl) (AllL.cons_ (rfl) (AllL.cons_ ((by rw [List.take_zero, List.append_nil]; rfl)) (AllL.cons_ ((congrArg (fun z : Int => some (iV z)) (by omega))) (AllL.cons_ (rfl) (AllL.cons_ (rfl) (AllL.cons_ (rfl) (AllL.cons_ (rfl) (AllL.cons_ (rfl) (AllL.cons_ (rfl) (AllL.cons_ (rfl) (AllL.cons_ (rfl) (AllL.cons_ (rfl) (AllL.cons_ (rfl) (AllL.cons_ (rfl) (AllL.cons_ (rfl) (AllL.cons_ (rfl) (AllL.cons_ (rfl) (AllL.cons_ (rfl) (AllL.cons_ (rfl) (AllL.cons_ (rfl) (AllL.cons_ (rfl) trivial)))))))))))))))))))))))) (AllL.cons_ (rfl) (AllL.cons_ ((by rw [List.take_zero, List.append_nil]; rfl)) trivial)) ?_
  exact hKc0 _ _ _ ⟨0, A24, b24, c24, rfl, rfl, rfl, g24a, (by first | omega | (simp; done) | (simp <;> omega) | exact Nat.le_refl _), (by omega)⟩
 ·
  rintro m fr H ⟨k, A7, b7, c7, rfl, rfl, rfl, g7a, g7b, hk⟩ Kc0 hKc0
  have hbl := beN_len 3 n
  have htl : ((beN 3 n).take k).length = k := by rw [List.length_take]; omega
  refine At.seq ?_
  refine At.seq ?_
  refine At.region ?_
  refine At.p (some 27) (P_move rfl rfl) ?_
  refine At.p (some 28) (P_cmp rfl rfl rfl rfl rfl rfl) ?_
  refine At.nil ?_
  refine At.next ?_
  refine At.cond rfl (fun h28 => ?_) (fun h28 => ?_)
  · -- cond 28 t
   have e28 : ((3 : Int) - 1 - (k : Int)) ≥ 0 := of_decide_eq_true h28
   refine At.skip ?_
   refine At.next ?_
   refine At.seq ?_
   refine At.block ?_
   refine At.region ?_
   refine At.p (some 31) (P_move rfl rfl) ?_
   refine At.p (some 32) (P_move rfl rfl) ?_
   refine At.p (some 33) (P_move rfl rfl) ?_
   refine At.p (some 34) (P_mul_i rfl rfl rfl (by omega)) ?_
   refine At.p (some 35) (P_shr_i rfl rfl rfl (by first | decide | omega) (by first | decide | omega)) ?_
   refine At.p (some 36) (P_conv_iw UK.u8 rfl Try.underlying3 Try.underlying5 rfl) ?_
   refine At.s (S_buildSliceV (some 37) 37 (([(BitVec.ofInt 8 ((n : Int) / 2 ^ ((8 * ((3 : Int) - 1 - (k : Int))) : Int).toNat))]).map u8V) rfl Try.underlying23 sz5 ze5 rfl rfl (by decide) (by decide) rfl rfl (fun b37 => ?_))
   refine At.s (S_appendM (some 38) 24 ((b ++ (beN 3 n).take (k + 1))) (f := u8V) (l := (b ++ (beN 3 n).take k)) (L := [(BitVec.ofInt 8 ((n : Int) / 2 ^ ((8 * ((3 : Int) - 1 - (k : Int))) : Int).toNat))]) (m := 1) rfl Try.underlying23 Try.underlying23 (.inr ⟨_, rfl⟩) sz5 by5 ze5 rfl rfl (fun h => ⟨g7a h, rfl⟩) LN OG (Src.all (k := 37) (l := [(BitVec.ofInt 8 ((n : Int) / 2 ^ ((8 * ((3 : Int) - 1 - (k : Int))) : Int).toNat))]) rfl (fun _ => rfl) (fun _ => ⟨rfl, rfl, rfl⟩) LN) (fun _ => rfl) OG OG (by rw [beN_succ (by omega), List.append_assoc, show (8 * ((3 : Int) - 1 - (k : Int))).toNat = 8 * (3 - 1 - k) by omega]) LN ?_)
   intro A38 b38 c38 g38a g38b
   refine At.p (some 7) (P_assign rfl rfl) ?_
   refine At.nil ?_
   refine At.inb_n ?_
   refine At.next ?_
   refine At.region ?_
   refine At.p (some 29) (P_move rfl rfl) ?_
   refine At.p (some 30) (P_sub_i rfl rfl rfl (by omega)) ?_
   refine At.p (some 8) (P_assign rfl rfl) ?_
   refine At.nil ?_
   refine At.next ?_
   refine At.to [(0, _), (1, _), (2, _), (6, _), (7, _), (8, iV ((3 : Int) - 1 - ((k + 1 : Nat) : Int))), (9, _), (10, _), (11, _), (12, _), (13, _), (14, _), (15, _), (16, _), (17, _), (18, _), (19, _), (20, _), (21, _), (22, _), (23, _), (24, _), (25, _), (26, _)] [(0, _), (24, _)] (AllL.cons_ (rfl) (AllL.cons_ (rfl) (AllL.cons_ (rfl) (AllL.cons_ (rfl) (AllL.cons_ (rfl) (AllL.cons_ ((congrArg (fun z : Int => some (iV z)) (by omega))) (AllL.cons_ (rfl) (AllL.cons_ (rfl) (AllL.cons_ (rfl) (AllL.cons_ (rfl) (AllL.cons_ (rfl) (AllL.cons_ (rfl) (AllL.cons_ (rfl) (AllL.cons_ (rfl) (AllL.cons_ (rfl) (AllL.cons_ (rfl) (AllL.cons_ (rfl) (AllL.cons_ (rfl) (AllL.cons_ (rfl) (AllL.cons_ (rfl) (AllL.cons_ (rfl) (AllL.cons_ (rfl) (AllL.cons_ (rfl) (AllL.cons_ (rfl) trivial)))))))))))))))))))))))) (AllL.cons_ (rfl) (AllL.cons_ (rfl) trivial)) ?_
   exact hKc0 _ _ _ (by omega) ⟨k + 1, A38, b38, c38, rfl, rfl, rfl, g38a, (by first | omega | (simp; done) | (simp <;> omega) | exact Nat.le_refl _), (by omega)⟩
  · -- cond 28 f
   have e28 : ¬ ((3 : Int) - 1 - (k : Int)) ≥ 0 := of_decide_eq_false h28
   refine At.exit ?_
   refine At.thn_e ?_
   refine At.thn_e ?_
   refine At.inb_hit ?_
   refine At.next ?_
   refine At.seq ?_
   refine At.region ?_
   refine At.p (some 39) (P_move rfl rfl) ?_
   refine At.p (some 6) (P_assign rfl rfl) ?_
   refine At.nil ?_
   refine At.next ?_
   refine At.ret ?_
   have hq0 : (b ++ (beN 3 n).take k) = b ++ beN 3 n := (by rw [show k = 3 by omega, List.take_of_length_le (Nat.le_of_eq (beN_len _ _))])
   refine At.give (.inl rfl) [24] (rows' := [_]) (vs := [_]) rfl ⟨rfl, trivial⟩ rfl (by simp) (by simp) ⟨A7, b7, c7, g7a, (by rw [← hq0]; first | omega | (simp; done) | (simp <;> omega) | exact Nat.le_refl _), (by first | (rw [hq0]; try rfl; done) | (rw [← hq0]; try rfl; done) | (simp only [hq0]; try rfl; done) | (simp only [← hq0]; try rfl; done) | rfl), (by first | (rw [hq0]; try rfl; done) | (rw [← hq0]; try rfl; done) | (simp only [hq0]; try rfl; done) | (simp only [← hq0]; try rfl; done) | rfl)⟩

set_option maxHeartbeats 2000000 in
theorem k_PutVec1 {b : List (BitVec 8)} {Ab : Option Addr} {nb cb bb qb : Nat} {x : List (BitVec 8)} {Ax : Option Addr} {nx cx bx qx : Nat} (hnb : b.length = nb) (hAb : 0 < nb → Ab = some ⟨bb, qb, none⟩) (hnx : x.length = nx) (hAx : 0 < nx → Ax = some ⟨bx, qx, none⟩) (hl : nb ≤ 900000) (hn : nx < 256) :
  Con Try.prog 8 [.slice Ab nb cb, .slice Ax nx cx, iV 1] [pRow bb qb b, pRow bx qx x] (fun v rs => ∃ (A' : Option Addr) (b' c' : Nat), (0 < c' → A' = some ⟨b', 0, none⟩) ∧ (b ++ beN 1 nx ++ x).length ≤ c' ∧ v = .slice A' (b ++ beN 1 nx ++ x).length c' ∧ rs = [⟨true, b', 0, 5, (b ++ beN 1 nx ++ x).map u8V, c' - (b ++ beN 1 nx ++ x).length⟩]) := by
 refine Con.enter Try.func8 Try.ntmps8 (Nat.le_of_ble_eq_true rfl) rfl fun w => ?_
 refine At.seq ?_
 refine At.region ?_
 refine At.p (some 6) (P_assign rfl rfl) ?_
 refine At.nil ?_
 refine At.next ?_
 refine At.seq ?_
 refine At.region ?_
 refine At.p (some 8) (P_move rfl rfl) ?_
 refine At.p (some 9) (P_move rfl rfl) ?_
 refine At.p (some 10) (P_len_sl rfl rfl ⟨_, Try.underlying23⟩ rfl) ?_
 refine At.p (some 11) (P_move rfl rfl) ?_
 refine At.s (S_callV (some 12) [(0, _)] [12] (vs := [_, _, _]) rfl en37 rfl (VN (by simp) rfl View.all V0) (by simp) (k_PutUint1 (b := b) (Ab := Ab) (nb := nb) (cb := cb) (bb := bb) (qb := qb) (n := nx) LN hAb (by omega) (by omega)) (by rintro _ _ ⟨A12, b12, c12, g12a, g12b, rfl, rfl⟩; rfl) ?_)
 rintro _ _ ⟨A12, b12, c12, g12a, g12b, rfl, rfl⟩
 have hbn := beN_len 1 nx
 refine At.p (some 7) (P_assign rfl rfl) ?_
 refine At.nil ?_
 refine At.next ?_
 refine At.seq ?_
 refine At.seq ?_
 refine At.region ?_
 refine At.p (some 13) (P_move rfl rfl) ?_
 refine At.p (some 14) (P_eql_slnil rfl Try.underlying23 rfl rfl) ?_
 refine At.nil ?_
 refine At.next ?_
 refine At.cond rfl (fun h14 => by rw [g12a (by rw [List.length_append] at g12b; omega)] at h14; cases h14) (fun h14 => ?_)
 refine At.skip ?_
 refine At.next ?_
 refine At.seq ?_
 refine At.region ?_
 refine At.p (some 15) (P_move rfl rfl) ?_
 refine At.p (some 16) (P_move rfl rfl) ?_
 refine At.s (S_appendM (some 17) 12 (((b ++ beN 1 nx) ++ x)) (f := u8V) (l := (b ++ beN 1 nx)) (L := x) (m := nx) rfl Try.underlying23 Try.underlying23 (.inr ⟨_, rfl⟩) sz5 by5 ze5 rfl rfl (fun h => ⟨g12a h, rfl⟩) LN OG (Src.all (k := 1) (l := x) rfl hAx (fun _ => ⟨rfl, rfl, rfl⟩) LN) (fun _ => rfl) OG OG rfl LN ?_)
 intro A17 b17 c17 g17a g17b
 refine At.p (some 6) (P_assign rfl rfl) ?_
 refine At.nil ?_
 refine At.next ?_
 refine At.ret ?_
 refine At.give (.inl rfl) [12] (rows' := [_]) (vs := [_]) rfl ⟨rfl, trivial⟩ rfl (by simp) (by simp) ⟨A17, b17, c17, g17a, (by first | omega | (simp; done) | (simp <;> omega) | exact Nat.le_refl _), rfl, rfl⟩

set_option maxHeartbeats 2000000 in
theorem k_PutVec2 {b : List (BitVec 8)} {Ab : Option Addr} {nb cb bb qb : Nat} {x : List (BitVec 8)} {Ax : Option Addr} {nx cx bx qx : Nat} (hnb : b.length = nb) (hAb : 0 < nb → Ab = some ⟨bb, qb, none⟩) (hnx : x.length = nx) (hAx : 0 < nx → Ax = some ⟨bx, qx, none⟩) (hl : nb ≤ 900000) (hn : nx < 65536) :
  Con Try.prog 8 [.slice Ab nb cb, .slice Ax nx cx, iV 2] [pRow bb qb b, pRow bx qx x] (fun v rs => ∃ (A' : Option Addr) (b' c' : Nat), (0 < c' → A' = some ⟨b', 0, none⟩) ∧ (b ++ beN 2 nx ++ x).length ≤ c' ∧ v = .slice A' (b ++ beN 2 nx ++ x).length c' ∧ rs = [⟨true, b', 0, 5, (b ++ beN 2 nx ++ x).map u8V, c' - (b ++ beN 2 nx ++ x).length⟩]) := by
 refine Con.enter Try.func8 Try.ntmps8 (Nat.le_of_ble_eq_true rfl) rfl fun w => ?_
 refine At.seq ?_
 refine At.region ?_
 refine At.p (some 6) (P_assign rfl rfl) ?_
 refine At.nil ?_
 refine At.next ?_
 refine At.seq ?_
 refine At.region ?_
 refine At.p (some 8) (P_move rfl rfl) ?_
 refine At.p (some 9) (P_move rfl rfl) ?_
 refine At.p (some 10) (P_len_sl rfl rfl ⟨_, Try.underlying23⟩ rfl) ?_
 refine At.p (some 11) (P_move rfl rfl) ?_
 refine At.s (S_callV (some 12) [(0, _)] [12] (vs := [_, _, _]) rfl en37 rfl (VN (by simp) rfl View.all V0) (by simp) (k_PutUint2 (b := b) (Ab := Ab) (nb := nb) (cb := cb) (bb := bb) (qb := qb) (n := nx) LN hAb (by omega) (by omega)) (by rintro _ _ ⟨A12, b12, c12, g12a, g12b, rfl, rfl⟩; rfl) ?_)
 rintro _ _ ⟨A12, b12, c12, g12a, g12b, rfl, rfl⟩
 have hbn := beN_len 2 nx
 refine At.p (some 7) (P_assign rfl rfl) ?_
 refine At.nil ?_
 refine At.next ?_
 refine At.seq ?_
 refine At.seq ?_
 refine At.region ?_
 refine At.p (some 13) (P_move rfl rfl) ?_
 refine At.p (some 14) (P_eql_slnil rfl Try.underlying23 rfl rfl) ?_
 refine At.nil ?_
 refine At.next ?_
 refine At.cond rfl (fun h14 => by rw [g12a (by rw [List.length_append] at g12b; omega)] at h14; cases h14) (fun h14 => ?_)
 refine At.skip ?_
 refine At.next ?_
 refine At.seq ?_
 refine At.region ?_
 refine At.p (some 15) (P_move rfl rfl) ?_
 refine At.p (some 16) (P_move rfl rfl) ?_
 refine At.s (S_appendM (some 17) 12 (((b ++ beN 2 nx) ++ x)) (f := u8V) (l := (b ++ beN 2 nx)) (L := x) (m := nx) rfl Try.underlying23 Try.underlying23 (.inr ⟨_, rfl⟩) sz5 by5 ze5 rfl rfl (fun h => ⟨g12a h, rfl⟩) LN OG (Src.all (k := 1) (l := x) rfl hAx (fun _ => ⟨rfl, rfl, rfl⟩) LN) (fun _ => rfl) OG OG rfl LN ?_)
 intro A17 b17 c17 g17a g17b
 refine At.p (some 6) (P_assign rfl rfl) ?_
 refine At.nil ?_
 refine At.next ?_
 refine At.ret ?_
 refine At.give (.inl rfl) [12] (rows' := [_]) (vs := [_]) rfl ⟨rfl, trivial⟩ rfl (by simp) (by simp) ⟨A17, b17, c17, g17a, (by first | omega | (simp; done) | (simp <;> omega) | exact Nat.le_refl _), rfl, rfl⟩

set_option maxHeartbeats 2000000 in
theorem k_PutVec3 {b : List (BitVec 8)} {Ab : Option Addr} {nb cb bb qb : Nat} {x : List (BitVec 8)} {Ax : Option Addr} {nx cx bx qx : Nat} (hnb : b.length = nb) (hAb : 0 < nb → Ab = some ⟨bb, qb, none⟩) (hnx : x.length = nx) (hAx : 0 < nx → Ax = some ⟨bx, qx, none⟩) (hl : nb ≤ 900000) (hn : nx < 100000) :
  Con Try.prog 8 [.slice Ab nb cb, .slice Ax nx cx, iV 3] [pRow bb qb b, pRow bx qx x] (fun v rs => ∃ (A' : Option Addr) (b' c' : Nat), (0 < c' → A' = some ⟨b', 0, none⟩) ∧ (b ++ beN 3 nx ++ x).length ≤ c' ∧ v = .slice A' (b ++ beN 3 nx ++ x).length c' ∧ rs = [⟨true, b', 0, 5, (b ++ beN 3 nx ++ x).map u8V, c' - (b ++ beN 3 nx ++ x).length⟩]) := by
 refine Con.enter Try.func8 Try.ntmps8 (Nat.le_of_ble_eq_true rfl) rfl fun w => ?_
 refine At.seq ?_
 refine At.region ?_
 refine At.p (some 6) (P_assign rfl rfl) ?_
 refine At.nil ?_
 refine At.next ?_
 refine At.seq ?_
 refine At.region ?_
 refine At.p (some 8) (P_move rfl rfl) ?_
 refine At.p (some 9) (P_move rfl rfl) ?_
 refine At.p (some 10) (P_len_sl rfl rfl ⟨_, Try.underlying23⟩ rfl) ?_
 refine At.p (some 11) (P_move rfl rfl) ?_
 refine At.s (S_callV (some 12) [(0, _)] [12] (vs := [_, _, _]) rfl en37 rfl (VN (by simp) rfl View.all V0) (by simp) (k_PutUint3 (b := b) (Ab := Ab) (nb := nb) (cb := cb) (bb := bb) (qb := qb) (n := nx) LN hAb (by omega) (by omega)) (by rintro _ _ ⟨A12, b12, c12, g12a, g12b, rfl, rfl⟩; rfl) ?_)
 rintro _ _ ⟨A12, b12, c12, g12a, g12b, rfl, rfl⟩
 have hbn := beN_len 3 nx
 refine At.p (some 7) (P_assign rfl rfl) ?_
 refine At.nil ?_
 refine At.next ?_
 refine At.seq ?_
 refine At.seq ?_
 refine At.region ?_
 refine At.p (some 13) (P_move rfl rfl) ?_
 refine At.p (some 14) (P_eql_slnil rfl Try.underlying23 rfl rfl) ?_
 refine At.nil ?_
 refine At.next ?_
 refine At.cond rfl (fun h14 => by rw [g12a (by rw [List.length_append] at g12b; omega)] at h14; cases h14) (fun h14 => ?_)
 refine At.skip ?_
 refine At.next ?_
 refine At.seq ?_
 refine At.region ?_
 refine At.p (some 15) (P_move rfl rfl) ?_
 refine At.p (some 16) (P_move rfl rfl) ?_
 refine At.s (S_appendM (some 17) 12 (((b ++ beN 3 nx) ++ x)) (f := u8V) (l := (b ++ beN 3 nx)) (L := x) (m := nx) rfl Try.underlying23 Try.underlying23 (.inr ⟨_, rfl⟩) sz5 by5 ze5 rfl rfl (fun h => ⟨g12a h, rfl⟩) LN OG (Src.all (k := 1) (l := x) rfl hAx (fun _ => ⟨rfl, rfl, rfl⟩) LN) (fun _ => rfl) OG OG rfl LN ?_)
 intro A17 b17 c17 g17a g17b
 refine At.p (some 6) (P_assign rfl rfl) ?_
 refine At.nil ?_
 refine At.next ?_
 refine At.ret ?_
 refine At.give (.inl rfl) [12] (rows' := [_]) (vs := [_]) rfl ⟨rfl, trivial⟩ rfl (by simp) (by simp) ⟨A17, b17, c17, g17a, (by first | omega | (simp; done) | (simp <;> omega) | exact Nat.le_refl _), rfl, rfl⟩


end Go.Proofs.Ytcjfkmhijfcciaa

