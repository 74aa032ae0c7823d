import Derived.Test.YtcjfkmhijfcciaaDoorXT3
import Derived.Test.YtcjfkmhijfcciaaDoorRV2
import Derived.Test.YtcjfkmhijfcciaaDoorTG
import Derived.Test.YtcjfkmhijfcciaaDoorG1
namespace Go.Proofs.YtcjfkmhijfcciaaDoor
set_option maxRecDepth 20000
set_option linter.unusedVariables false
set_option linter.unusedSimpArgs false
open Go.SE Go.RowKit
/-! records one behind the other -/
def txC (x : BG) : List (BitVec 8) := x.l.take (min x.l.length 256 - 0)
def cutE (x : BG) : BG := bG (cut x.A 0 x.c 1) x.b (x.c - 0) (txC x)
def rcS (key iv : List (BitVec 8)) (es : List BG) (j : Nat) : List (BitVec 8) := rsT key iv (BitVec.ofInt 64 (j : Int)) 23 (txC (es.getD j default)) 0
def rcTo (key iv : List (BitVec 8)) (es : List BG) : Nat → List (BitVec 8)
 | 0 => []
 | i + 1 => rcTo key iv es i ++ rcS key iv es i
/-- A body's length. -/
def rcN (es : List BG) (j : Nat) : Nat := (txC (es.getD j default)).length + 17
theorem txC_len (x : BG) : (txC x).length = min x.l.length 256 := by
 unfold txC
 rw [List.length_take]
 omega
theorem rc_ok (x : BG) : rsOk 23 (txC x).length 0 = true := by
 have := txC_len x
 exact decide_eq_true (by omega)
theorem rcN_le (es : List BG) (j : Nat) : 17 ≤ rcN es j ∧ rcN es j ≤ 273 := by
 have := txC_len (es.getD j default)
 unfold rcN
 omega
theorem rcS_len (key iv : List (BitVec 8)) (es : List BG) (j : Nat) : (rcS key iv es j).length = 5 + rcN es j := by
 unfold rcS rcN
 rw [rsT_len (rc_ok _)]
 simp
 omega
theorem rcS_hd (key iv : List (BitVec 8)) (es : List BG) (j : Nat) : ∃ X, rcS key iv es j = hdR 23 (rcN es j : Int) ++ X := by
 unfold rcS
 rw [rsT_t (rc_ok _), inR_len]
 refine ⟨rsB key iv (BitVec.ofInt 64 (j : Int)) 23 (txC (es.getD j default)) 0, ?_⟩
 rw [show (((txC (es.getD j default)).length + 1 + (0 : Int).toNat : Nat) : Int) + 16 = (rcN es j : Int) by unfold rcN; simp; omega]
theorem rcTo_len_succ (key iv : List (BitVec 8)) (es : List BG) (a : Nat) : (rcTo key iv es (a + 1)).length = (rcTo key iv es a).length + (5 + rcN es a) := by
 rw [rcTo, List.length_append, rcS_len]
theorem rcTo_le (key iv : List (BitVec 8)) (es : List BG) : ∀ i, (rcTo key iv es i).length ≤ 300 * i
 | 0 => by simp [rcTo]
 | i + 1 => by
  have := rcTo_le key iv es i
  have := rcN_le es i
  rw [rcTo_len_succ]
  omega
theorem rc_split (key iv : List (BitVec 8)) (es : List BG) {a : Nat} : ∀ {N : Nat}, a < N → ∃ R, rcTo key iv es N = rcTo key iv es a ++ (rcS key iv es a ++ R)
 | 0, h => absurd h (Nat.not_lt_zero _)
 | N + 1, h => by
  rcases Nat.lt_or_ge a N with h1 | h1
  ·
   obtain ⟨R, hR⟩ := rc_split key iv es h1
   refine ⟨R ++ rcS key iv es N, ?_⟩
   rw [rcTo, hR]
   simp only [List.append_assoc]
  ·
   obtain rfl : a = N := by omega
   exact ⟨[], by rw [rcTo, List.append_nil]⟩
/-- What the reader has. -/
def cnt (key iv : List (BitVec 8)) (es : List BG) (N f a : Nat) : List (BitVec 8) := ((rcTo key iv es N).take f).drop (rcTo key iv es a).length
theorem cnt_len {key iv : List (BitVec 8)} {es : List BG} {N f a : Nat} (hf : f ≤ (rcTo key iv es N).length) : (cnt key iv es N f a).length = f - (rcTo key iv es a).length := by
 unfold cnt
 rw [List.length_drop, List.length_take]
 omega
theorem cnt_eq {key iv : List (BitVec 8)} {es : List BG} {N f a : Nat} {R : List (BitVec 8)} (hR : rcTo key iv es N = rcTo key iv es a ++ (rcS key iv es a ++ R)) : cnt key iv es N f a = (rcS key iv es a ++ R).take (f - (rcTo key iv es a).length) := by
 unfold cnt
 rw [hR, List.take_append, List.drop_append]
 rcases Nat.lt_or_ge f (rcTo key iv es a).length with h | h
 ·
  rw [List.drop_eq_nil_of_le (by rw [List.length_take]; omega), show f - (rcTo key iv es a).length = 0 by omega]
  simp
 · rw [List.take_of_length_le h, List.drop_length, Nat.sub_self, List.drop_zero, List.nil_append]
theorem cnt_get {key iv : List (BitVec 8)} {es : List BG} {N f a j : Nat} (ha : a < N) (hj : j < (cnt key iv es N f a).length) (h5 : j < 5) : (cnt key iv es N f a).getD j 0#8 = (hdR 23 (rcN es a : Int)).getD j 0#8 := by
 obtain ⟨R, hR⟩ := rc_split key iv es ha
 obtain ⟨X, hX⟩ := rcS_hd key iv es a
 rw [cnt_eq hR] at hj ⊢
 rw [List.length_take] at hj
 rw [List.getD_eq_getElem?_getD, List.getElem?_take, if_pos (by omega), hX, List.append_assoc, List.getElem?_append_left (by rw [hdR_len]; exact h5), ← List.getD_eq_getElem?_getD]
structure HdOk (c : List (BitVec 8)) (n : Nat) : Prop where
 h0 : 0 < c.length → (c.getD 0 0#8) = 23#8
 h1 : 1 < c.length → (c.getD 1 0#8) = 3#8
 h3 : 5 ≤ c.length → (c.getD 3 0#8).toNat * 256 + (c.getD 4 0#8).toNat = n
 hn : n ≤ 273
theorem hd_num {n : Nat} (h : n ≤ 273) : (BitVec.ofInt 8 ((n : Int) / 2 ^ 8)).toNat * 256 + (BitVec.ofInt 8 (n : Int)).toNat = n := by
 rw [BitVec.toNat_ofInt, BitVec.toNat_ofInt]
 omega
theorem cnt_hd {key iv : List (BitVec 8)} {es : List BG} {N f a : Nat} (ha : a ≤ N) (hf : f ≤ (rcTo key iv es N).length) : HdOk (cnt key iv es N f a) (rcN es a) := by
 rcases Nat.lt_or_ge a N with h | h
 ·
  refine ⟨fun hj => ?_, fun hj => ?_, fun hj => ?_, (rcN_le es a).2⟩
  · rw [cnt_get h hj (by decide)]; rfl
  · rw [cnt_get h hj (by decide)]; rfl
  ·
   rw [cnt_get h (by omega) (by decide), cnt_get h (by omega) (by decide)]
   exact hd_num (rcN_le es a).2
 ·
  obtain rfl : a = N := by omega
  have hl := cnt_len (a := a) hf
  have : (cnt key iv es a f a).length = 0 := by omega
  exact ⟨fun h => by omega, fun h => by omega, fun h => by omega, (rcN_le es a).2⟩
theorem cnt_lt {key iv : List (BitVec 8)} {es : List BG} {N f a : Nat} (ha : a ≤ N) (hf : f ≤ (rcTo key iv es N).length) (h : 5 + rcN es a ≤ (cnt key iv es N f a).length) : a < N ∧ (rcTo key iv es (a + 1)).length ≤ f := by
 rw [cnt_len hf] at h
 refine ⟨?_, by rw [rcTo_len_succ]; omega⟩
 rcases Nat.lt_or_ge a N with h1 | h1
 · exact h1
 ·
  obtain rfl : a = N := by omega
  omega
theorem cnt_body {key iv : List (BitVec 8)} {es : List BG} {N f a : Nat} (ha : a < N) (hf : f ≤ (rcTo key iv es N).length) (h : 5 + rcN es a ≤ (cnt key iv es N f a).length) : ((cnt key iv es N f a).drop 5).take (rcN es a) = ((rcS key iv es a).drop 5).take ((rcS key iv es a).length - 5) := by
 obtain ⟨R, hR⟩ := rc_split key iv es ha
 have hl := rcS_len key iv es a
 rw [cnt_len hf] at h
 rw [cnt_eq hR, hl, show 5 + rcN es a - 5 = rcN es a by omega, List.take_drop, List.take_drop, List.take_take, show min (5 + rcN es a) (f - (rcTo key iv es a).length) = (rcS key iv es a).length by omega, List.take_left, show 5 + rcN es a = (rcS key iv es a).length by omega, List.take_length]
theorem cnt_next {key iv : List (BitVec 8)} {es : List BG} {N f a : Nat} : (cnt key iv es N f a).drop (5 + rcN es a) = cnt key iv es N f (a + 1) := by
 unfold cnt
 rw [List.drop_drop, rcTo_len_succ]
theorem cnt_feed {key iv : List (BitVec 8)} {es : List BG} {N f g a : Nat} (ho : (rcTo key iv es a).length ≤ f) (hf : f ≤ (rcTo key iv es N).length) (hg : f ≤ g) : cnt key iv es N f a ++ ((rcTo key iv es N).drop f).take (g - f) = cnt key iv es N g a := by
 unfold cnt
 have h1 : (rcTo key iv es N).take g = (rcTo key iv es N).take f ++ ((rcTo key iv es N).drop f).take (g - f) := by
  rw [show g = f + (g - f) by omega, List.take_add, show f + (g - f) - f = g - f by omega]
 rw [h1, List.drop_append, List.length_take, show (rcTo key iv es a).length - min f (rcTo key iv es N).length = 0 by omega, List.drop_zero]
theorem cnt_0 {key iv : List (BitVec 8)} {es : List BG} {N : Nat} : cnt key iv es N 0 0 = [] := by
 unfold cnt
 rw [List.take_zero, List.drop_nil]
theorem cnt_end {key iv : List (BitVec 8)} {es : List BG} {N a : Nat} (ha : a ≤ N) (h : a < N → (cnt key iv es N (rcTo key iv es N).length a).length < 5 + rcN es a) : a = N ∧ cnt key iv es N (rcTo key iv es N).length a = [] := by
 have hl := cnt_len (a := a) (Nat.le_refl (rcTo key iv es N).length)
 rcases Nat.lt_or_ge a N with h1 | h1
 ·
  obtain ⟨R, hR⟩ := rc_split key iv es h1
  have h2 := h h1
  have h3 := congrArg List.length hR
  rw [List.length_append, List.length_append, rcS_len] at h3
  omega
 ·
  obtain rfl : a = N := by omega
  exact ⟨rfl, List.eq_nil_of_length_eq_zero (by omega)⟩
theorem want_succ {es : List BG} {i : Nat} (h : i < es.length) : (es.take i).map cutE ++ [cutE (es.getD i default)] = (es.take (i + 1)).map cutE := by
 rw [List.take_succ_eq_append_getElem h, List.map_append, List.getD_eq_getElem?_getD, List.getElem?_eq_getElem h]
 rfl
theorem want_at {es : List BG} {N a : Nat} (h : a < N) (hN : N ≤ es.length) : ((es.take N).map cutE).getD a default = cutE (es.getD a default) := by
 rw [List.getD_eq_getElem?_getD, List.getElem?_map, List.getElem?_take, if_pos h, List.getElem?_eq_getElem (by omega), List.getD_eq_getElem?_getD, List.getElem?_eq_getElem (by omega)]
 rfl
theorem Q_strC {P : Program} {E : Env} {fr : Fr} {H : Hp} {o : Oper} {x : Operand} {s d e : TypeId} (b i : Nat) {es : List BG} (hF : FamOk H (famR b es)) (hi : i < es.length) (hes : ∀ e ∈ es, e.okR) (ho : o.op = .convert s d x) (hs : P.underlying s = some (.slice e)) (he : P.underlying e = some (.int .u8)) (hd : P.underlying d = some .string)
  (hx : fr.ev x = some (cutE (es.getD i default)).v) : QStep P E fr H o (strV (txC (es.getD i default))) := by
 have hok := hes _ (getDG_mem hi)
 have hl := txC_len (es.getD i default)
 have h2 := hok.2.1
 refine Q_strN (l := txC (es.getD i default)) (n := (txC (es.getD i default)).length) (k := lf b i) (j := 0) rfl ho hs he hd hx (fun h => cut_zero (BG.adrR hok (by omega))) (fun _ => ⟨hF i (dlt_iff.2 hi), rfl, Nat.add_zero _⟩) ?_
 show (((es.getD i default).l.map u8V).drop 0).take _ = (txC _).map u8V
 rw [List.drop_zero, ← List.map_take, hl]
 unfold txC
 rw [Nat.sub_zero]
def uI (i : Nat) : Nat := 8 * ((i + 7) / 8)
theorem uI_ok {i : Nat} (h : i ≤ 40) : i ≤ uI i ∧ uI i ≤ 64 ∧ uI i % 8 = 0 := by unfold uI; omega
theorem wN_u {i : Nat} (h : i ≤ 40) : wN i (uI i) 1 = uI (i + 1) := by unfold wN uI; omega
theorem uI_mono (i : Nat) : uI i ≤ uI (i + 1) := by unfold uI; omega
theorem rc_open {key iv : List (BitVec 8)} {es : List BG} {N f a : Nat} (ha : a < N) (hf : f ≤ (rcTo key iv es N).length) (h : 5 + rcN es a ≤ (cnt key iv es N f a).length) :
  roE key iv (BitVec.ofInt 64 (a : Int)) (((cnt key iv es N f a).drop 5).take (rcN es a)) = 0 ∧ roK key iv (BitVec.ofInt 64 (a : Int)) (((cnt key iv es N f a).drop 5).take (rcN es a)) = 23 ∧ roT key iv (BitVec.ofInt 64 (a : Int)) (((cnt key iv es N f a).drop 5).take (rcN es a)) = txC (es.getD a default) := by
 rw [cnt_body ha hf h]
 exact rs_open (rc_ok _)
theorem shl8b {a : Nat} (h : a < 4294967296) : -9223372036854775808 ≤ (a : Int) * 2 ^ (8 : Int).toNat ∧ (a : Int) * 2 ^ (8 : Int).toNat ≤ 9223372036854775807 := by
 have : ((2 : Int) ^ (8 : Int).toNat) = 256 := by decide
 rw [this]
 omega
theorem P_cast {P : Program} {fr : Fr} {o : Oper} {v v' : Value} (h : v = v') (q : PStep P fr o v) : PStep P fr o v' := h ▸ q
theorem rcTo_0 (key iv : List (BitVec 8)) (es : List BG) : rcTo key iv es 0 = [] := rfl
theorem rc_step (key iv : List (BitVec 8)) (es : List BG) (i : Nat) : rcTo key iv es i ++ rsT key iv (BitVec.ofInt 64 (i : Int)) 23 ((es.getD i default).l.take (min (es.getD i default).l.length 256 - 0)) 0 = rcTo key iv es (i + 1) := rfl
theorem want_step {es : List BG} {i : Nat} (h : i < es.length) : (es.take i).map cutE ++ [bG (cut (es.getD i default).A 0 (es.getD i default).c 1) (es.getD i default).b ((es.getD i default).c - 0) ((es.getD i default).l.take (min (es.getD i default).l.length 256 - 0))] = (es.take (i + 1)).map cutE := want_succ h
attribute [local irreducible] dkS dvS nnS nnI hdR rsT rsB rsE roE roK roT roX roO kdOk trN trL trK inR wN sumS macS labS
set_option maxHeartbeats 2000000 in
theorem s_New   :
  Con Tryd.prog 16 [.slice none 0 0] [] (fun v rs => ∃ br' bl' A' c', (0 < c' → A' = some ⟨bl', 0, none⟩) ∧ v = ptr br' 0 ∧ rs = [⟨true, br', 0, 66, [.slice A' ([] : List (BitVec 8)).length c', iV 0], 0⟩, ⟨true, bl', 0, 5, ([] : List (BitVec 8)).map u8V, c' - ([] : List (BitVec 8)).length⟩]) := by
 refine Con.enter Tryd.func16 Tryd.ntmps16 (Nat.le_of_ble_eq_true rfl) rfl fun w => ?_
 refine At.seq ?_
 refine At.region ?_
 refine At.p (some 2) (P_assign rfl rfl) ?_
 refine At.nil ?_
 refine At.next ?_
 refine At.seq ?_
 refine At.region ?_
 refine At.p (some 3) (P_move rfl rfl) ?_
 refine At.s (S_callV (some 4) [(98, _)] [4] (vs := [_]) rfl en23 rfl (VE rfl rfl V0) (by simp) (c_BClone (b := ([] : List (BitVec 8))) (nb := 0) (Ab := none) (cb := 0) (bb := 0) (qb := 0) LN (fun h => absurd h (Nat.lt_irrefl 0)) OG) (by rintro _ _ ⟨A4, b4, c4, g4a, g4b, rfl, rfl⟩; rfl) ?_)
 rintro _ _ ⟨A4, b4, c4, g4a, g4b, rfl, rfl⟩
 refine At.p (some 5) (P_build_struct (parts := _) (vs := [(0, _)]) rfl Tryd.underlying66 ze66 pl66 rfl rfl) ?_
 refine At.s (S_box (some 6) 6 (zs := [.slice A4 (([] : List (BitVec 8)).length) c4, iV 0]) rfl rfl rfl (fun b6 => ?_))
 refine At.p (some 2) (P_assign rfl rfl) ?_
 refine At.nil ?_
 refine At.next ?_
 refine At.ret ?_
 refine At.give (.inl rfl) [6, 4] (rows' := [_, _]) (vs := [_]) rfl ⟨rfl, trivial⟩ rfl (by simp) (by simp) ⟨b6, b4, A4, c4, g4a, rfl, rfl⟩

set_option maxHeartbeats 2000000 in
theorem s_Feed {br bl cr : Nat} {c : List (BitVec 8)} {Ar : Option Addr} {p : List (BitVec 8)} {Ap : Option Addr} {np cp bp qp : Nat} (hAr : 0 < cr → Ar = some ⟨bl, 0, none⟩) (hcr : c.length ≤ cr) (hnp : p.length = np) (hAp : 0 < np → Ap = some ⟨bp, qp, none⟩) (hl : c.length + np ≤ 100000) :
  Con Tryd.prog 17 [ptr br 0, .slice Ap np cp] [⟨true, br, 0, 66, [.slice Ar c.length cr, iV 0], 0⟩, ⟨true, bl, 0, 5, (c).map u8V, cr - (c).length⟩, pRow bp qp p] (fun v rs => ∃ A' bl' c', (0 < c' → A' = some ⟨bl', 0, none⟩) ∧ (c ++ p).length ≤ c' ∧ v = iV 0 ∧ rs = [⟨true, br, 0, 66, [.slice A' (c ++ p).length c', iV 0], 0⟩, ⟨true, bl', 0, 5, (c ++ p).map u8V, c' - (c ++ p).length⟩]) := by
 refine Con.enter Tryd.func17 Tryd.ntmps17 (Nat.le_of_ble_eq_true rfl) rfl fun w => ?_
 refine At.seq ?_
 refine At.region ?_
 refine At.p (some 4) (P_assign rfl rfl) ?_
 refine At.nil ?_
 refine At.next ?_
 refine At.seq ?_
 refine At.block ?_
 refine At.seq ?_
 refine At.region ?_
 refine At.p (some 6) (P_move rfl rfl) ?_
 refine At.p (some 7) (P_eql_ptr rfl rfl rfl Tryd.underlying48) ?_
 refine At.p (some 5) (P_assign rfl rfl) ?_
 refine At.nil ?_
 refine At.next ?_
 refine At.cond rfl (fun h5 => by simp at h5) (fun h5 => ?_)
 refine At.seq ?_
 refine At.region ?_
 refine At.p (some 9) (P_move rfl rfl) ?_
 refine At.p (some 10) (P_nilCheck rfl rfl) ?_
 refine At.p (some 11) (P_fieldAddr0 (off := 1) rfl Tryd.underlying66 rfl sz30 rfl rfl) ?_
 refine At.q (some 12) (Q_loadO (k := 0) rfl rfl Tryd.underlying30 rfl rfl rfl) ?_
 refine At.p (some 13) (P_cmp rfl rfl rfl rfl rfl rfl) ?_
 refine At.p (some 8) (P_assign rfl rfl) ?_
 refine At.nil ?_
 refine At.next ?_
 refine At.cond rfl (fun h8 => by simp at h8) (fun h8 => ?_)
 have e8 : 0 = 0 := bne_eq_false_iff_eq.1 h8
 refine At.skip ?_
 refine At.inb_n ?_
 refine At.next ?_
 refine At.seq ?_
 refine At.region ?_
 refine At.p (some 14) (P_move rfl rfl) ?_
 refine At.p (some 15) (P_move rfl rfl) ?_
 refine At.p (some 16) (P_nilCheck rfl rfl) ?_
 refine At.p (some 17) (P_fieldAddr0 (off := 0) rfl Tryd.underlying66 rfl sz36 rfl rfl) ?_
 refine At.q (some 18) (Q_loadO (k := 0) rfl rfl Tryd.underlying36 rfl rfl rfl) ?_
 refine At.p (some 19) (P_move rfl rfl) ?_
 refine At.s (S_appendM (some 20) 1 ((c ++ p)) (f := u8V) (l := c) (L := p) (m := np) rfl Tryd.underlying36 Tryd.underlying36 (.inr ⟨_, rfl⟩) sz5 by5 ze5 rfl rfl (fun h => ⟨hAr h, rfl⟩) LN OG (Src.all (k := 2) (l := p) rfl hAp (fun _ => ⟨rfl, rfl, rfl⟩) LN) (fun _ => rfl) OG OG rfl LN ?_)
 intro A20 b20 c20 g20a g20b
 refine At.p (some 21) (P_nilCheck rfl rfl) ?_
 refine At.p (some 22) (P_fieldAddr0 (off := 0) rfl Tryd.underlying66 rfl sz36 rfl rfl) ?_
 refine At.s (S_store none (k := 0) rfl rfl rfl sz36 rfl rfl rfl LN ?_)
 refine At.nil ?_
 refine At.next ?_
 refine At.seq ?_
 refine At.region ?_
 refine At.p (some 4) (P_assign rfl rfl) ?_
 refine At.nil ?_
 refine At.next ?_
 refine At.ret ?_
 refine At.give (.inl rfl) [0, 1] (rows' := [_, _]) (vs := [_]) rfl ⟨rfl, trivial⟩ rfl (by simp) (by simp) ⟨A20, b20, c20, g20a, g20b, rfl, rfl⟩

set_option maxHeartbeats 2000000 in
theorem s_began {br bl cr : Nat} {c : List (BitVec 8)} {Ar : Option Addr} (hAr : 0 < cr → Ar = some ⟨bl, 0, none⟩) (hcr : c.length ≤ cr) (h0 : 0 < c.length → (c.getD 0 0#8) = 23#8) (h1 : 1 < c.length → (c.getD 1 0#8) = 3#8) :
  Con Tryd.prog 30 [ptr br 0] [⟨false, br, 0, 66, [.slice Ar c.length cr, iV 0], 0⟩, ⟨false, bl, 0, 5, (c).map u8V, cr - (c).length⟩] (fun v rs => v = .bool true ∧ rs = []) := by
 refine Con.enter Tryd.func30 Tryd.ntmps30 (Nat.le_of_ble_eq_true rfl) rfl fun w => ?_
 refine At.seq ?_
 refine At.region ?_
 refine At.p (some 2) (P_assign rfl rfl) ?_
 refine At.nil ?_
 refine At.next ?_
 refine At.seq ?_
 refine At.seq ?_
 refine At.region ?_
 refine At.p (some 3) (P_move rfl rfl) ?_
 refine At.p (some 4) (P_nilCheck rfl rfl) ?_
 refine At.p (some 5) (P_fieldAddr0 (off := 0) rfl Tryd.underlying66 rfl sz36 rfl rfl) ?_
 refine At.q (some 6) (Q_loadO (k := 0) rfl rfl Tryd.underlying36 rfl rfl rfl) ?_
 refine At.p (some 7) (P_len_sl rfl rfl ⟨_, Tryd.underlying36⟩ rfl) ?_
 refine At.p (some 8) (P_cmp rfl rfl rfl rfl rfl rfl) ?_
 refine At.p (some 9) (P_move rfl rfl) ?_
 refine At.gsplit (t := 9) (want := true) rfl (fun g1 => ?_) (fun g1 => ?_)
 ·
  have eg1 : (c.length : Int) > 0 := of_decide_eq_true g1
  refine At.gy (t := 9) rfl g1 rfl rfl ?_
  refine At.p (some 10) (P_move rfl rfl) ?_
  refine At.gy (t := 9) rfl g1 rfl rfl ?_
  refine At.p (some 11) (P_nilCheck rfl rfl) ?_
  refine At.gy (t := 9) rfl g1 rfl rfl ?_
  refine At.p (some 12) (P_fieldAddr0 (off := 0) rfl Tryd.underlying66 rfl sz36 rfl rfl) ?_
  refine At.gy (t := 9) rfl g1 rfl rfl ?_
  refine At.q (some 13) (Q_loadO (k := 0) rfl rfl Tryd.underlying36 rfl rfl rfl) ?_
  refine At.gy (t := 9) rfl g1 rfl rfl ?_
  refine At.p (some 14) (P_indexAddr_slz (b := bl) (j := 0) rfl Tryd.underlying36 sz5 rfl ((fun h => hAr (by omega)) OG) rfl rfl OG) ?_
  refine At.gy (t := 9) rfl g1 rfl rfl ?_
  refine At.q (some 15) (Q_loadM (k := 1) (f := u8V) (l := c) (0#8) rfl rfl Tryd.underlying5 rfl rfl OG) ?_
  refine At.gy (t := 9) rfl g1 rfl rfl ?_
  refine At.p (some 16) (P_lss_w (n := 8) (b := 20#8) rfl rfl rfl) ?_
  refine At.gy (t := 9) rfl g1 rfl rfl ?_
  refine At.p (some 17) (P_move rfl rfl) ?_
  refine At.gy (t := 17) rfl (decide_eq_false (by rw [h0 (by omega)]; decide)) rfl rfl ?_
  refine At.p (some 18) (P_move rfl rfl) ?_
  refine At.gy (t := 17) rfl (decide_eq_false (by rw [h0 (by omega)]; decide)) rfl rfl ?_
  refine At.p (some 19) (P_nilCheck rfl rfl) ?_
  refine At.gy (t := 17) rfl (decide_eq_false (by rw [h0 (by omega)]; decide)) rfl rfl ?_
  refine At.p (some 20) (P_fieldAddr0 (off := 0) rfl Tryd.underlying66 rfl sz36 rfl rfl) ?_
  refine At.gy (t := 17) rfl (decide_eq_false (by rw [h0 (by omega)]; decide)) rfl rfl ?_
  refine At.q (some 21) (Q_loadO (k := 0) rfl rfl Tryd.underlying36 rfl rfl rfl) ?_
  refine At.gy (t := 17) rfl (decide_eq_false (by rw [h0 (by omega)]; decide)) rfl rfl ?_
  refine At.p (some 22) (P_indexAddr_slz (b := bl) (j := 0) rfl Tryd.underlying36 sz5 rfl ((fun h => hAr (by omega)) OG) rfl rfl OG) ?_
  refine At.gy (t := 17) rfl (decide_eq_false (by rw [h0 (by omega)]; decide)) rfl rfl ?_
  refine At.q (some 23) (Q_loadM (k := 1) (f := u8V) (l := c) (0#8) rfl rfl Tryd.underlying5 rfl rfl OG) ?_
  refine At.gy (t := 17) rfl (decide_eq_false (by rw [h0 (by omega)]; decide)) rfl rfl ?_
  refine At.p (some 24) (P_gtr_w (n := 8) (b := 23#8) rfl rfl rfl) ?_
  refine At.gy (t := 9) rfl g1 rfl rfl ?_
  refine At.p (some 25) (P_pick_f rfl rfl (decide_eq_false (by rw [h0 (by omega)]; decide)) rfl) ?_
  refine At.p (some 26) (P_pick_t rfl rfl g1 rfl) ?_
  refine At.nil ?_
  refine At.next ?_
  refine At.cond rfl (fun h26 => (by exfalso; revert h26; rw [h0 (by omega)]; decide)) (fun h26 => ?_)
  have e26 : ¬ (23#8).toNat < (c.getD 0 0#8).toNat := of_decide_eq_false h26
  refine At.skip ?_
  refine At.next ?_
  refine At.seq ?_
  refine At.region ?_
  refine At.p (some 27) (P_move rfl rfl) ?_
  refine At.p (some 28) (P_nilCheck rfl rfl) ?_
  refine At.p (some 29) (P_fieldAddr0 (off := 0) rfl Tryd.underlying66 rfl sz36 rfl rfl) ?_
  refine At.q (some 30) (Q_loadO (k := 0) rfl rfl Tryd.underlying36 rfl rfl rfl) ?_
  refine At.p (some 31) (P_len_sl rfl rfl ⟨_, Tryd.underlying36⟩ rfl) ?_
  refine At.p (some 32) (P_cmp rfl rfl rfl rfl rfl rfl) ?_
  refine At.p (some 33) (P_move rfl rfl) ?_
  refine At.gsplit (t := 33) (want := false) rfl (fun g2 => ?_) (fun g2 => ?_)
  ·
   have eg2 : ¬ (c.length : Int) ≤ 1 := of_decide_eq_false g2
   refine At.gy (t := 33) rfl g2 rfl rfl ?_
   refine At.p (some 34) (P_move rfl rfl) ?_
   refine At.gy (t := 33) rfl g2 rfl rfl ?_
   refine At.p (some 35) (P_nilCheck rfl rfl) ?_
   refine At.gy (t := 33) rfl g2 rfl rfl ?_
   refine At.p (some 36) (P_fieldAddr0 (off := 0) rfl Tryd.underlying66 rfl sz36 rfl rfl) ?_
   refine At.gy (t := 33) rfl g2 rfl rfl ?_
   refine At.q (some 37) (Q_loadO (k := 0) rfl rfl Tryd.underlying36 rfl rfl rfl) ?_
   refine At.gy (t := 33) rfl g2 rfl rfl ?_
   refine At.p (some 38) (P_indexAddr_slz (b := bl) (j := 1) rfl Tryd.underlying36 sz5 rfl ((fun h => hAr (by omega)) OG) rfl rfl OG) ?_
   refine At.gy (t := 33) rfl g2 rfl rfl ?_
   refine At.q (some 39) (Q_loadM (k := 1) (f := u8V) (l := c) (0#8) rfl rfl Tryd.underlying5 rfl rfl OG) ?_
   refine At.gy (t := 33) rfl g2 rfl rfl ?_
   refine At.p (some 40) (P_eql_w (n := 8) (b := 3#8) rfl rfl rfl) ?_
   refine At.p (some 41) (P_pick_f rfl rfl g2 rfl) ?_
   refine At.p (some 2) (P_assign rfl rfl) ?_
   refine At.nil ?_
   refine At.next ?_
   refine At.ret ?_
   have hq0 : ((c.getD 1 0#8) == (3#8)) = true := (by first | rfl | (rw [h1 (by omega)]; rfl))
   refine At.give (.inl rfl) [] (rows' := []) (vs := [_]) rfl ⟨rfl, trivial⟩ rfl (by simp) (by simp) ⟨(by first | (rw [hq0]; try rfl; done) | (rw [← hq0]; try rfl; done) | (simp only [hq0]; try rfl; done) | (simp only [← hq0]; try rfl; done) | rfl), (by first | (rw [hq0]; try rfl; done) | (rw [← hq0]; try rfl; done) | (simp only [hq0]; try rfl; done) | (simp only [← hq0]; try rfl; done) | rfl)⟩
  ·
   have eg2 : (c.length : Int) ≤ 1 := of_decide_eq_true g2
   refine At.gn (some 34) (t := 33) rfl g2 rfl rfl ?_
   refine At.gn (some 35) (t := 33) rfl g2 rfl rfl ?_
   refine At.gn (some 36) (t := 33) rfl g2 rfl rfl ?_
   refine At.gn (some 37) (t := 33) rfl g2 rfl rfl ?_
   refine At.gn (some 38) (t := 33) rfl g2 rfl rfl ?_
   refine At.gn (some 39) (t := 33) rfl g2 rfl rfl ?_
   refine At.gn (some 40) (t := 33) rfl g2 rfl rfl ?_
   refine At.p (some 41) (P_pick_t rfl rfl g2 rfl) ?_
   refine At.p (some 2) (P_assign rfl rfl) ?_
   refine At.nil ?_
   refine At.next ?_
   refine At.ret ?_
   have hq0 : true = true := (by first | rfl | (rw [h1 (by omega)]; rfl))
   refine At.give (.inl rfl) [] (rows' := []) (vs := [_]) rfl ⟨rfl, trivial⟩ rfl (by simp) (by simp) ⟨(by first | (rw [hq0]; try rfl; done) | (rw [← hq0]; try rfl; done) | (simp only [hq0]; try rfl; done) | (simp only [← hq0]; try rfl; done) | rfl), (by first | (rw [hq0]; try rfl; done) | (rw [← hq0]; try rfl; done) | (simp only [hq0]; try rfl; done) | (simp only [← hq0]; try rfl; done) | rfl)⟩
 ·
  have eg1 : ¬ (c.length : Int) > 0 := of_decide_eq_false g1
  refine At.gn (some 10) (t := 9) rfl g1 rfl rfl ?_
  refine At.gn (some 11) (t := 9) rfl g1 rfl rfl ?_
  refine At.gn (some 12) (t := 9) rfl g1 rfl rfl ?_
  refine At.gn (some 13) (t := 9) rfl g1 rfl rfl ?_
  refine At.gn (some 14) (t := 9) rfl g1 rfl rfl ?_
  refine At.gn (some 15) (t := 9) rfl g1 rfl rfl ?_
  refine At.gn (some 16) (t := 9) rfl g1 rfl rfl ?_
  refine At.gn (some 17) (t := 9) rfl g1 rfl rfl ?_
  refine At.gu (some 18) (t := 17) rfl rfl rfl ?_
  refine At.gu (some 19) (t := 17) rfl rfl rfl ?_
  refine At.gu (some 20) (t := 17) rfl rfl rfl ?_
  refine At.gu (some 21) (t := 17) rfl rfl rfl ?_
  refine At.gu (some 22) (t := 17) rfl rfl rfl ?_
  refine At.gu (some 23) (t := 17) rfl rfl rfl ?_
  refine At.gu (some 24) (t := 17) rfl rfl rfl ?_
  refine At.gn (some 25) (t := 9) rfl g1 rfl rfl ?_
  refine At.p (some 26) (P_pick_f rfl rfl g1 rfl) ?_
  refine At.nil ?_
  refine At.next ?_
  refine At.cond rfl (fun h => absurd (h.symm.trans rfl) (by decide)) (fun _ => ?_)
  refine At.skip ?_
  refine At.next ?_
  refine At.seq ?_
  refine At.region ?_
  refine At.p (some 27) (P_move rfl rfl) ?_
  refine At.p (some 28) (P_nilCheck rfl rfl) ?_
  refine At.p (some 29) (P_fieldAddr0 (off := 0) rfl Tryd.underlying66 rfl sz36 rfl rfl) ?_
  refine At.q (some 30) (Q_loadO (k := 0) rfl rfl Tryd.underlying36 rfl rfl rfl) ?_
  refine At.p (some 31) (P_len_sl rfl rfl ⟨_, Tryd.underlying36⟩ rfl) ?_
  refine At.p (some 32) (P_cmp rfl rfl rfl rfl rfl rfl) ?_
  refine At.p (some 33) (P_move rfl rfl) ?_
  refine At.gsplit (t := 33) (want := false) rfl (fun g3 => ?_) (fun g3 => ?_)
  ·
   have eg3 : ¬ (c.length : Int) ≤ 1 := of_decide_eq_false g3
   refine At.gy (t := 33) rfl g3 rfl rfl ?_
   refine At.p (some 34) (P_move rfl rfl) ?_
   refine At.gy (t := 33) rfl g3 rfl rfl ?_
   refine At.p (some 35) (P_nilCheck rfl rfl) ?_
   refine At.gy (t := 33) rfl g3 rfl rfl ?_
   refine At.p (some 36) (P_fieldAddr0 (off := 0) rfl Tryd.underlying66 rfl sz36 rfl rfl) ?_
   refine At.gy (t := 33) rfl g3 rfl rfl ?_
   refine At.q (some 37) (Q_loadO (k := 0) rfl rfl Tryd.underlying36 rfl rfl rfl) ?_
   refine At.gy (t := 33) rfl g3 rfl rfl ?_
   refine At.p (some 38) (P_indexAddr_slz (b := bl) (j := 1) rfl Tryd.underlying36 sz5 rfl ((fun h => hAr (by omega)) OG) rfl rfl OG) ?_
   refine At.gy (t := 33) rfl g3 rfl rfl ?_
   refine At.q (some 39) (Q_loadM (k := 1) (f := u8V) (l := c) (0#8) rfl rfl Tryd.underlying5 rfl rfl OG) ?_
   refine At.gy (t := 33) rfl g3 rfl rfl ?_
   refine At.p (some 40) (P_eql_w (n := 8) (b := 3#8) rfl rfl rfl) ?_
   refine At.p (some 41) (P_pick_f rfl rfl g3 rfl) ?_
   refine At.p (some 2) (P_assign rfl rfl) ?_
   refine At.nil ?_
   refine At.next ?_
   refine At.ret ?_
   have hq0 : ((c.getD 1 0#8) == (3#8)) = true := (by first | rfl | (rw [h1 (by omega)]; rfl))
   refine At.give (.inl rfl) [] (rows' := []) (vs := [_]) rfl ⟨rfl, trivial⟩ rfl (by simp) (by simp) ⟨(by first | (rw [hq0]; try rfl; done) | (rw [← hq0]; try rfl; done) | (simp only [hq0]; try rfl; done) | (simp only [← hq0]; try rfl; done) | rfl), (by first | (rw [hq0]; try rfl; done) | (rw [← hq0]; try rfl; done) | (simp only [hq0]; try rfl; done) | (simp only [← hq0]; try rfl; done) | rfl)⟩
  ·
   have eg3 : (c.length : Int) ≤ 1 := of_decide_eq_true g3
   refine At.gn (some 34) (t := 33) rfl g3 rfl rfl ?_
   refine At.gn (some 35) (t := 33) rfl g3 rfl rfl ?_
   refine At.gn (some 36) (t := 33) rfl g3 rfl rfl ?_
   refine At.gn (some 37) (t := 33) rfl g3 rfl rfl ?_
   refine At.gn (some 38) (t := 33) rfl g3 rfl rfl ?_
   refine At.gn (some 39) (t := 33) rfl g3 rfl rfl ?_
   refine At.gn (some 40) (t := 33) rfl g3 rfl rfl ?_
   refine At.p (some 41) (P_pick_t rfl rfl g3 rfl) ?_
   refine At.p (some 2) (P_assign rfl rfl) ?_
   refine At.nil ?_
   refine At.next ?_
   refine At.ret ?_
   have hq0 : true = true := (by first | rfl | (rw [h1 (by omega)]; rfl))
   refine At.give (.inl rfl) [] (rows' := []) (vs := [_]) rfl ⟨rfl, trivial⟩ rfl (by simp) (by simp) ⟨(by first | (rw [hq0]; try rfl; done) | (rw [← hq0]; try rfl; done) | (simp only [hq0]; try rfl; done) | (simp only [← hq0]; try rfl; done) | rfl), (by first | (rw [hq0]; try rfl; done) | (rw [← hq0]; try rfl; done) | (simp only [hq0]; try rfl; done) | (simp only [← hq0]; try rfl; done) | rfl)⟩

set_option maxHeartbeats 2000000 in
theorem s_most {k : BitVec 8} (hk : k = 23#8) :
  Con Tryd.prog 31 [u8V k] [] (fun v rs => v = iV 273 ∧ rs = []) := by
 refine Con.enter Tryd.func31 Tryd.ntmps31 (Nat.le_of_ble_eq_true rfl) rfl fun w => ?_
 refine At.seq ?_
 refine At.region ?_
 refine At.p (some 2) (P_assign rfl rfl) ?_
 refine At.nil ?_
 refine At.next ?_
 refine At.seq ?_
 refine At.seq ?_
 refine At.region ?_
 refine At.p (some 3) (P_move rfl rfl) ?_
 refine At.p (some 4) (P_eql_w (n := 8) (b := 23#8) rfl rfl rfl) ?_
 refine At.nil ?_
 refine At.next ?_
 refine At.cond rfl (fun h4 => ?_) (fun h4 => by rw [hk] at h4; exact absurd h4 (by decide))
 have e4 : k = (23#8) := eq_of_beq h4
 refine At.seq ?_
 refine At.region ?_
 refine At.p (some 2) (P_assign rfl rfl) ?_
 refine At.nil ?_
 refine At.next ?_
 refine At.ret ?_
 refine At.thn_r ?_
 refine At.give (.inl rfl) [] (rows' := []) (vs := [_]) rfl ⟨rfl, trivial⟩ rfl (by simp) (by simp) ⟨rfl, rfl⟩

set_option maxHeartbeats 2000000 in
theorem s_TakeN {br bl cr n : Nat} {c : List (BitVec 8)} {Ar : Option Addr} (hAr : 0 < cr → Ar = some ⟨bl, 0, none⟩) (hcr : c.length ≤ cr) (hh : HdOk c n) (hlt : c.length < 5 + n) (hcl : c.length ≤ 100000) :
  Con Tryd.prog 18 [ptr br 0] [⟨true, br, 0, 66, [.slice Ar c.length cr, iV 0], 0⟩, ⟨true, bl, 0, 5, (c).map u8V, cr - (c).length⟩] (fun v rs => v = .tuple #[iV 0, .slice none 0 0, .bool false, iV 0] ∧ rs = [⟨true, br, 0, 66, [.slice Ar c.length cr, iV 0], 0⟩, ⟨true, bl, 0, 5, c.map u8V, cr - c.length⟩]) := by
 refine Con.enter Tryd.func18 Tryd.ntmps18 (Nat.le_of_ble_eq_true rfl) rfl fun w => ?_
 refine At.seq ?_
 have hn := hh.hn
 refine At.region ?_
 refine At.p (some 2) (P_assign rfl rfl) ?_
 refine At.p (some 3) (P_assign rfl rfl) ?_
 refine At.p (some 4) (P_assign rfl rfl) ?_
 refine At.p (some 5) (P_assign rfl rfl) ?_
 refine At.nil ?_
 refine At.next ?_
 refine At.seq ?_
 refine At.block ?_
 refine At.seq ?_
 refine At.region ?_
 refine At.p (some 10) (P_move rfl rfl) ?_
 refine At.p (some 11) (P_eql_ptr rfl rfl rfl Tryd.underlying48) ?_
 refine At.p (some 9) (P_assign rfl rfl) ?_
 refine At.nil ?_
 refine At.next ?_
 refine At.cond rfl (fun h9 => by simp at h9) (fun h9 => ?_)
 refine At.seq ?_
 refine At.region ?_
 refine At.p (some 13) (P_move rfl rfl) ?_
 refine At.p (some 14) (P_nilCheck rfl rfl) ?_
 refine At.p (some 15) (P_fieldAddr0 (off := 1) rfl Tryd.underlying66 rfl sz30 rfl rfl) ?_
 refine At.q (some 16) (Q_loadO (k := 0) rfl rfl Tryd.underlying30 rfl rfl rfl) ?_
 refine At.p (some 17) (P_cmp rfl rfl rfl rfl rfl rfl) ?_
 refine At.p (some 12) (P_assign rfl rfl) ?_
 refine At.nil ?_
 refine At.next ?_
 refine At.cond rfl (fun h12 => by simp at h12) (fun h12 => ?_)
 have e12 : 0 = 0 := bne_eq_false_iff_eq.1 h12
 refine At.seq ?_
 refine At.region ?_
 refine At.p (some 23) (P_move rfl rfl) ?_
 refine At.s (S_callV (some 24) [(0, _), (1, _)] [] (vs := [_]) rfl en30 rfl (VN (by simp) rfl View.all (VN (by simp) rfl View.all V0)) (by simp) (s_began (br := br) (bl := bl) (cr := cr) (c := c) (Ar := Ar) hAr hcr hh.h0 hh.h1) (by rintro _ _ ⟨rfl, rfl⟩; rfl) ?_)
 rintro _ _ ⟨rfl, rfl⟩
 refine At.p (some 25) (P_not rfl rfl) ?_
 refine At.p (some 22) (P_assign rfl rfl) ?_
 refine At.nil ?_
 refine At.next ?_
 refine At.cond rfl (fun h22 => by simp at h22) (fun h22 => ?_)
 refine At.seq ?_
 refine At.region ?_
 refine At.p (some 34) (P_move rfl rfl) ?_
 refine At.p (some 35) (P_nilCheck rfl rfl) ?_
 refine At.p (some 36) (P_fieldAddr0 (off := 0) rfl Tryd.underlying66 rfl sz36 rfl rfl) ?_
 refine At.q (some 37) (Q_loadO (k := 0) rfl rfl Tryd.underlying36 rfl rfl rfl) ?_
 refine At.p (some 38) (P_len_sl rfl rfl ⟨_, Tryd.underlying36⟩ rfl) ?_
 refine At.p (some 39) (P_cmp rfl rfl rfl rfl rfl rfl) ?_
 refine At.p (some 33) (P_assign rfl rfl) ?_
 refine At.nil ?_
 refine At.next ?_
 refine At.cond rfl (fun h33 => ?_) (fun h33 => ?_)
 · -- cond 33 t
  have e33 : (c.length : Int) < 5 := of_decide_eq_true h33
  refine At.seq ?_
  refine At.region ?_
  refine At.p (some 2) (P_assign rfl rfl) ?_
  refine At.p (some 3) (P_assign rfl rfl) ?_
  refine At.p (some 4) (P_assign rfl rfl) ?_
  refine At.p (some 5) (P_assign rfl rfl) ?_
  refine At.nil ?_
  refine At.next ?_
  refine At.ret ?_
  refine At.inb_r ?_
  refine At.thn_r ?_
  refine At.give (.inl rfl) [0, 1] (rows' := [_, _]) (vs := [_, _, _, _]) rfl ⟨rfl, rfl, rfl, rfl, trivial⟩ rfl (by simp) (by simp) ⟨rfl, rfl⟩
 · -- cond 33 f
  have e33 : ¬ (c.length : Int) < 5 := of_decide_eq_false h33
  refine At.skip ?_
  refine At.inb_n ?_
  refine At.next ?_
  refine At.seq ?_
  refine At.draws 15 [] [.q false [0, 1, 2, 3, 4, 5, 6, 7, 8, 9, 10, 11, 12, 13, 14]] (by kernel_rfl) (by kernel_rfl) ?_
  refine At.wp (some 40) (P_move rfl rfl) ?_
  refine At.wp (some 41) (P_nilCheck rfl rfl) ?_
  refine At.wp (some 42) (P_fieldAddr0 (off := 0) rfl Tryd.underlying66 rfl sz36 rfl rfl) ?_
  refine At.wq (some 43) (Q_loadO (k := 0) rfl rfl Tryd.underlying36 rfl rfl rfl) ?_
  refine At.wp (some 44) (P_indexAddr_slz (b := bl) (j := 3) rfl Tryd.underlying36 sz5 rfl ((fun h => hAr (by omega)) OG) rfl rfl OG) ?_
  refine At.wq (some 45) (Q_loadM (k := 1) (f := u8V) (l := c) (0#8) rfl rfl Tryd.underlying5 rfl rfl OG) ?_
  refine At.wp (some 46) (P_conv_wi UK.u8 (by decide) rfl Tryd.underlying5 Tryd.underlying3 rfl) ?_
  refine At.wp (some 47) (P_shl_i rfl rfl rfl (by decide) (by decide) (shl8b (by have := (c.getD 3 0#8).isLt; omega))) ?_
  refine At.wp (some 48) (P_move rfl rfl) ?_
  refine At.wp (some 49) (P_nilCheck rfl rfl) ?_
  refine At.wp (some 50) (P_fieldAddr0 (off := 0) rfl Tryd.underlying66 rfl sz36 rfl rfl) ?_
  refine At.wq (some 51) (Q_loadO (k := 0) rfl rfl Tryd.underlying36 rfl rfl rfl) ?_
  refine At.wp (some 52) (P_indexAddr_slz (b := bl) (j := 4) rfl Tryd.underlying36 sz5 rfl ((fun h => hAr (by omega)) OG) rfl rfl OG) ?_
  refine At.wq (some 53) (Q_loadM (k := 1) (f := u8V) (l := c) (0#8) rfl rfl Tryd.underlying5 rfl rfl OG) ?_
  refine At.wp (some 54) (P_conv_wi UK.u8 (by decide) rfl Tryd.underlying5 Tryd.underlying3 rfl) ?_
  refine At.wqn ?_
  refine At.wt rfl ?_
  refine At.p (some 55) (P_cast (congrArg (fun z : Nat => iV (z : Int)) (hh.h3 (by omega))) (P_or_i8 (a := (c.getD 3 0#8).toNat) (c := (c.getD 4 0#8).toNat) rfl rfl rfl (by have := (c.getD 3 0#8).isLt; omega) (c.getD 4 0#8).isLt)) ?_
  refine At.p (some 6) (P_assign rfl rfl) ?_
  refine At.nil ?_
  refine At.next ?_
  refine At.seq ?_
  refine At.seq ?_
  refine At.region ?_
  refine At.p (some 56) (P_move rfl rfl) ?_
  refine At.p (some 57) (P_move rfl rfl) ?_
  refine At.p (some 58) (P_nilCheck rfl rfl) ?_
  refine At.p (some 59) (P_fieldAddr0 (off := 0) rfl Tryd.underlying66 rfl sz36 rfl rfl) ?_
  refine At.q (some 60) (Q_loadO (k := 0) rfl rfl Tryd.underlying36 rfl rfl rfl) ?_
  refine At.p (some 61) (P_indexAddr_slz (b := bl) (j := 0) rfl Tryd.underlying36 sz5 rfl ((fun h => hAr (by omega)) OG) rfl rfl OG) ?_
  refine At.q (some 62) (Q_loadM (k := 1) (f := u8V) (l := c) (0#8) rfl rfl Tryd.underlying5 rfl rfl OG) ?_
  refine At.s (S_callV (some 63) [] [] (vs := [_]) rfl en31 rfl V0 (by simp) (s_most (k := (c.getD 0 0#8)) (hh.h0 (by omega))) (by rintro _ _ ⟨rfl, rfl⟩; rfl) ?_)
  rintro _ _ ⟨rfl, rfl⟩
  refine At.p (some 64) (P_cmp rfl rfl rfl rfl rfl rfl) ?_
  refine At.nil ?_
  refine At.next ?_
  refine At.cond rfl (fun h64 => by exfalso; have e9 : (n : Int) > 273 := of_decide_eq_true h64; first | omega | (simp at e9; done) | (simp at e9; omega)) (fun h64 => ?_)
  have e64 : ¬ (n : Int) > 273 := of_decide_eq_false h64
  refine At.skip ?_
  refine At.next ?_
  refine At.seq ?_
  refine At.seq ?_
  refine At.region ?_
  refine At.p (some 72) (P_move rfl rfl) ?_
  refine At.p (some 73) (P_nilCheck rfl rfl) ?_
  refine At.p (some 74) (P_fieldAddr0 (off := 0) rfl Tryd.underlying66 rfl sz36 rfl rfl) ?_
  refine At.q (some 75) (Q_loadO (k := 0) rfl rfl Tryd.underlying36 rfl rfl rfl) ?_
  refine At.p (some 76) (P_len_sl rfl rfl ⟨_, Tryd.underlying36⟩ rfl) ?_
  refine At.p (some 77) (P_move rfl rfl) ?_
  refine At.p (some 78) (P_add_i rfl rfl rfl (by omega)) ?_
  refine At.p (some 79) (P_cmp rfl rfl rfl rfl rfl rfl) ?_
  refine At.nil ?_
  refine At.next ?_
  refine At.cond rfl (fun h79 => ?_) (fun h79 => by exfalso; have e9 : ¬ (c.length : Int) < (5 + (n : Int)) := of_decide_eq_false h79; first | omega | (simp at e9; done) | (simp at e9; omega))
  have e79 : (c.length : Int) < (5 + (n : Int)) := of_decide_eq_true h79
  refine At.seq ?_
  refine At.region ?_
  refine At.p (some 2) (P_assign rfl rfl) ?_
  refine At.p (some 3) (P_assign rfl rfl) ?_
  refine At.p (some 4) (P_assign rfl rfl) ?_
  refine At.p (some 5) (P_assign rfl rfl) ?_
  refine At.nil ?_
  refine At.next ?_
  refine At.ret ?_
  refine At.thn_r ?_
  refine At.give (.inl rfl) [0, 1] (rows' := [_, _]) (vs := [_, _, _, _]) rfl ⟨rfl, rfl, rfl, rfl, trivial⟩ rfl (by simp) (by simp) ⟨rfl, rfl⟩

set_option maxHeartbeats 2000000 in
theorem s_TakeY {br bl cr n : Nat} {c : List (BitVec 8)} {Ar : Option Addr} (hAr : 0 < cr → Ar = some ⟨bl, 0, none⟩) (hcr : c.length ≤ cr) (hh : HdOk c n) (hge : 5 + n ≤ c.length) (hcl : c.length ≤ 100000) :
  Con Tryd.prog 18 [ptr br 0] [⟨true, br, 0, 66, [.slice Ar c.length cr, iV 0], 0⟩, ⟨true, bl, 0, 5, (c).map u8V, cr - (c).length⟩] (fun v rs => ∃ A' b' c' A2 b2 c2, (0 < c' → A' = some ⟨b', 0, none⟩) ∧ ((c.drop 5).take n).length ≤ c' ∧ (0 < c2 → A2 = some ⟨b2, 0, none⟩) ∧ (c.drop (5 + n)).length ≤ c2 ∧ v = .tuple #[iV 23, .slice A' ((c.drop 5).take n).length c', .bool true, iV 0] ∧ rs = [⟨true, br, 0, 66, [.slice A2 (c.drop (5 + n)).length c2, iV 0], 0⟩, ⟨true, b2, 0, 5, (c.drop (5 + n)).map u8V, c2 - (c.drop (5 + n)).length⟩, ⟨true, b', 0, 5, ((c.drop 5).take n).map u8V, c' - ((c.drop 5).take n).length⟩]) := by
 refine Con.enter Tryd.func18 Tryd.ntmps18 (Nat.le_of_ble_eq_true rfl) rfl fun w => ?_
 refine At.seq ?_
 have hn := hh.hn
 refine At.region ?_
 refine At.p (some 2) (P_assign rfl rfl) ?_
 refine At.p (some 3) (P_assign rfl rfl) ?_
 refine At.p (some 4) (P_assign rfl rfl) ?_
 refine At.p (some 5) (P_assign rfl rfl) ?_
 refine At.nil ?_
 refine At.next ?_
 refine At.seq ?_
 refine At.block ?_
 refine At.seq ?_
 refine At.region ?_
 refine At.p (some 10) (P_move rfl rfl) ?_
 refine At.p (some 11) (P_eql_ptr rfl rfl rfl Tryd.underlying48) ?_
 refine At.p (some 9) (P_assign rfl rfl) ?_
 refine At.nil ?_
 refine At.next ?_
 refine At.cond rfl (fun h9 => by simp at h9) (fun h9 => ?_)
 refine At.seq ?_
 refine At.region ?_
 refine At.p (some 13) (P_move rfl rfl) ?_
 refine At.p (some 14) (P_nilCheck rfl rfl) ?_
 refine At.p (some 15) (P_fieldAddr0 (off := 1) rfl Tryd.underlying66 rfl sz30 rfl rfl) ?_
 refine At.q (some 16) (Q_loadO (k := 0) rfl rfl Tryd.underlying30 rfl rfl rfl) ?_
 refine At.p (some 17) (P_cmp rfl rfl rfl rfl rfl rfl) ?_
 refine At.p (some 12) (P_assign rfl rfl) ?_
 refine At.nil ?_
 refine At.next ?_
 refine At.cond rfl (fun h12 => by simp at h12) (fun h12 => ?_)
 have e12 : 0 = 0 := bne_eq_false_iff_eq.1 h12
 refine At.seq ?_
 refine At.region ?_
 refine At.p (some 23) (P_move rfl rfl) ?_
 refine At.s (S_callV (some 24) [(0, _), (1, _)] [] (vs := [_]) rfl en30 rfl (VN (by simp) rfl View.all (VN (by simp) rfl View.all V0)) (by simp) (s_began (br := br) (bl := bl) (cr := cr) (c := c) (Ar := Ar) hAr hcr hh.h0 hh.h1) (by rintro _ _ ⟨rfl, rfl⟩; rfl) ?_)
 rintro _ _ ⟨rfl, rfl⟩
 refine At.p (some 25) (P_not rfl rfl) ?_
 refine At.p (some 22) (P_assign rfl rfl) ?_
 refine At.nil ?_
 refine At.next ?_
 refine At.cond rfl (fun h22 => by simp at h22) (fun h22 => ?_)
 refine At.seq ?_
 refine At.region ?_
 refine At.p (some 34) (P_move rfl rfl) ?_
 refine At.p (some 35) (P_nilCheck rfl rfl) ?_
 refine At.p (some 36) (P_fieldAddr0 (off := 0) rfl Tryd.underlying66 rfl sz36 rfl rfl) ?_
 refine At.q (some 37) (Q_loadO (k := 0) rfl rfl Tryd.underlying36 rfl rfl rfl) ?_
 refine At.p (some 38) (P_len_sl rfl rfl ⟨_, Tryd.underlying36⟩ rfl) ?_
 refine At.p (some 39) (P_cmp rfl rfl rfl rfl rfl rfl) ?_
 refine At.p (some 33) (P_assign rfl rfl) ?_
 refine At.nil ?_
 refine At.next ?_
 refine At.cond rfl (fun h33 => by exfalso; have e9 : (c.length : Int) < 5 := of_decide_eq_true h33; first | omega | (simp at e9; done) | (simp at e9; omega)) (fun h33 => ?_)
 have e33 : ¬ (c.length : Int) < 5 := of_decide_eq_false h33
 refine At.skip ?_
 refine At.inb_n ?_
 refine At.next ?_
 refine At.seq ?_
 refine At.draws 15 [] [.q false [0, 1, 2, 3, 4, 5, 6, 7, 8, 9, 10, 11, 12, 13, 14]] (by kernel_rfl) (by kernel_rfl) ?_
 refine At.wp (some 40) (P_move rfl rfl) ?_
 refine At.wp (some 41) (P_nilCheck rfl rfl) ?_
 refine At.wp (some 42) (P_fieldAddr0 (off := 0) rfl Tryd.underlying66 rfl sz36 rfl rfl) ?_
 refine At.wq (some 43) (Q_loadO (k := 0) rfl rfl Tryd.underlying36 rfl rfl rfl) ?_
 refine At.wp (some 44) (P_indexAddr_slz (b := bl) (j := 3) rfl Tryd.underlying36 sz5 rfl ((fun h => hAr (by omega)) OG) rfl rfl OG) ?_
 refine At.wq (some 45) (Q_loadM (k := 1) (f := u8V) (l := c) (0#8) rfl rfl Tryd.underlying5 rfl rfl OG) ?_
 refine At.wp (some 46) (P_conv_wi UK.u8 (by decide) rfl Tryd.underlying5 Tryd.underlying3 rfl) ?_
 refine At.wp (some 47) (P_shl_i rfl rfl rfl (by decide) (by decide) (shl8b (by have := (c.getD 3 0#8).isLt; omega))) ?_
 refine At.wp (some 48) (P_move rfl rfl) ?_
 refine At.wp (some 49) (P_nilCheck rfl rfl) ?_
 refine At.wp (some 50) (P_fieldAddr0 (off := 0) rfl Tryd.underlying66 rfl sz36 rfl rfl) ?_
 refine At.wq (some 51) (Q_loadO (k := 0) rfl rfl Tryd.underlying36 rfl rfl rfl) ?_
 refine At.wp (some 52) (P_indexAddr_slz (b := bl) (j := 4) rfl Tryd.underlying36 sz5 rfl ((fun h => hAr (by omega)) OG) rfl rfl OG) ?_
 refine At.wq (some 53) (Q_loadM (k := 1) (f := u8V) (l := c) (0#8) rfl rfl Tryd.underlying5 rfl rfl OG) ?_
 refine At.wp (some 54) (P_conv_wi UK.u8 (by decide) rfl Tryd.underlying5 Tryd.underlying3 rfl) ?_
 refine At.wqn ?_
 refine At.wt rfl ?_
 refine At.p (some 55) (P_cast (congrArg (fun z : Nat => iV (z : Int)) (hh.h3 (by omega))) (P_or_i8 (a := (c.getD 3 0#8).toNat) (c := (c.getD 4 0#8).toNat) rfl rfl rfl (by have := (c.getD 3 0#8).isLt; omega) (c.getD 4 0#8).isLt)) ?_
 refine At.p (some 6) (P_assign rfl rfl) ?_
 refine At.nil ?_
 refine At.next ?_
 refine At.seq ?_
 refine At.seq ?_
 refine At.region ?_
 refine At.p (some 56) (P_move rfl rfl) ?_
 refine At.p (some 57) (P_move rfl rfl) ?_
 refine At.p (some 58) (P_nilCheck rfl rfl) ?_
 refine At.p (some 59) (P_fieldAddr0 (off := 0) rfl Tryd.underlying66 rfl sz36 rfl rfl) ?_
 refine At.q (some 60) (Q_loadO (k := 0) rfl rfl Tryd.underlying36 rfl rfl rfl) ?_
 refine At.p (some 61) (P_indexAddr_slz (b := bl) (j := 0) rfl Tryd.underlying36 sz5 rfl ((fun h => hAr (by omega)) OG) rfl rfl OG) ?_
 refine At.q (some 62) (Q_loadM (k := 1) (f := u8V) (l := c) (0#8) rfl rfl Tryd.underlying5 rfl rfl OG) ?_
 refine At.s (S_callV (some 63) [] [] (vs := [_]) rfl en31 rfl V0 (by simp) (s_most (k := (c.getD 0 0#8)) (hh.h0 (by omega))) (by rintro _ _ ⟨rfl, rfl⟩; rfl) ?_)
 rintro _ _ ⟨rfl, rfl⟩
 refine At.p (some 64) (P_cmp rfl rfl rfl rfl rfl rfl) ?_
 refine At.nil ?_
 refine At.next ?_
 refine At.cond rfl (fun h64 => by exfalso; have e9 : (n : Int) > 273 := of_decide_eq_true h64; first | omega | (simp at e9; done) | (simp at e9; omega)) (fun h64 => ?_)
 have e64 : ¬ (n : Int) > 273 := of_decide_eq_false h64
 refine At.skip ?_
 refine At.next ?_
 refine At.seq ?_
 refine At.seq ?_
 refine At.region ?_
 refine At.p (some 72) (P_move rfl rfl) ?_
 refine At.p (some 73) (P_nilCheck rfl rfl) ?_
 refine At.p (some 74) (P_fieldAddr0 (off := 0) rfl Tryd.underlying66 rfl sz36 rfl rfl) ?_
 refine At.q (some 75) (Q_loadO (k := 0) rfl rfl Tryd.underlying36 rfl rfl rfl) ?_
 refine At.p (some 76) (P_len_sl rfl rfl ⟨_, Tryd.underlying36⟩ rfl) ?_
 refine At.p (some 77) (P_move rfl rfl) ?_
 refine At.p (some 78) (P_add_i rfl rfl rfl (by omega)) ?_
 refine At.p (some 79) (P_cmp rfl rfl rfl rfl rfl rfl) ?_
 refine At.nil ?_
 refine At.next ?_
 refine At.cond rfl (fun h79 => by exfalso; have e9 : (c.length : Int) < (5 + (n : Int)) := of_decide_eq_true h79; first | omega | (simp at e9; done) | (simp at e9; omega)) (fun h79 => ?_)
 have e79 : ¬ (c.length : Int) < (5 + (n : Int)) := of_decide_eq_false h79
 refine At.skip ?_
 refine At.next ?_
 refine At.seq ?_
 refine At.draws 15 [] [.q false [0, 1, 2, 3, 4, 5, 6, 7, 8, 9, 10, 11, 12, 13], .e false 14] (by kernel_rfl) (by kernel_rfl) ?_
 refine At.wp (some 80) (P_move rfl rfl) ?_
 refine At.wp (some 81) (P_nilCheck rfl rfl) ?_
 refine At.wp (some 82) (P_fieldAddr0 (off := 0) rfl Tryd.underlying66 rfl sz36 rfl rfl) ?_
 refine At.wq (some 83) (Q_loadO (k := 0) rfl rfl Tryd.underlying36 rfl rfl rfl) ?_
 refine At.wp (some 84) (P_indexAddr_slz (b := bl) (j := 0) rfl Tryd.underlying36 sz5 rfl ((fun h => hAr (by omega)) OG) rfl rfl OG) ?_
 refine At.wq (some 85) (Q_loadM (k := 1) (f := u8V) (l := c) (0#8) rfl rfl Tryd.underlying5 rfl rfl OG) ?_
 refine At.wp (some 86) (P_conv_wi UK.u8 (by decide) rfl Tryd.underlying5 Tryd.underlying3 rfl) ?_
 refine At.wp (some 87) (P_move rfl rfl) ?_
 refine At.wp (some 88) (P_nilCheck rfl rfl) ?_
 refine At.wp (some 89) (P_fieldAddr0 (off := 0) rfl Tryd.underlying66 rfl sz36 rfl rfl) ?_
 refine At.wq (some 90) (Q_loadO (k := 0) rfl rfl Tryd.underlying36 rfl rfl rfl) ?_
 refine At.wp (some 91) (P_move rfl rfl) ?_
 refine At.wp (some 92) (P_add_i rfl rfl rfl (by omega)) ?_
 refine At.wp (some 93) (P_slice_sl (l := 5) (h := (5 + n)) (m := cr) rfl Tryd.underlying36 sz5 rfl ⟨_, _, rfl, rfl⟩ ⟨_, _, rfl, by omega⟩ rfl DO DO DO) ?_
 refine At.wqn ?_
 refine At.we ?_
 refine SStep.up (S_callV (some 94) [(1, _)] [94] (vs := [_]) rfl en23 rfl (VN (by simp) rfl (View.sub (j := 5) (m := ((5 + n) - 5)) rfl rfl) V0) (by simp) (c_BClone (b := ((c.drop 5).take ((5 + n) - 5))) (nb := ((5 + n) - 5)) (Ab := (cut Ar 5 cr 1)) (cb := (cr - 5)) (bb := bl) (qb := (0 + 5)) LN (fun h => cut_addr1 ((fun h => hAr (by omega)) (by omega)) (by omega)) OG) (by rintro _ _ ⟨A94, b94, c94, g94a, g94b, rfl, rfl⟩; rfl) ?_)
 rintro _ _ ⟨A94, b94, c94, g94a, g94b, rfl, rfl⟩
 refine At.wt rfl ?_
 refine At.p (some 7) (P_assign rfl rfl) ?_
 refine At.p (some 8) (P_assign rfl rfl) ?_
 refine At.nil ?_
 refine At.next ?_
 refine At.seq ?_
 refine At.region ?_
 refine At.p (some 95) (P_move rfl rfl) ?_
 refine At.p (some 96) (P_move rfl rfl) ?_
 refine At.p (some 97) (P_nilCheck rfl rfl) ?_
 refine At.p (some 98) (P_fieldAddr0 (off := 0) rfl Tryd.underlying66 rfl sz36 rfl rfl) ?_
 refine At.q (some 99) (Q_loadO (k := 0) rfl rfl Tryd.underlying36 rfl rfl rfl) ?_
 refine At.p (some 100) (P_move rfl rfl) ?_
 refine At.p (some 101) (P_add_i rfl rfl rfl (by omega)) ?_
 refine At.p (some 102) (P_slice_sl (l := (5 + n)) (h := c.length) (m := cr) rfl Tryd.underlying36 sz5 rfl ⟨_, _, rfl, by omega⟩ rfl rfl DO DO DO) ?_
 refine At.s (S_callV (some 103) [(1, _)] [103] (vs := [_]) rfl en23 rfl (VN (by simp) rfl (View.sub (j := (5 + n)) (m := (c.length - (5 + n))) rfl rfl) V0) (by simp) (c_BClone (b := ((c.drop (5 + n)).take (c.length - (5 + n)))) (nb := (c.length - (5 + n))) (Ab := (cut Ar (5 + n) cr 1)) (cb := (cr - (5 + n))) (bb := bl) (qb := (0 + (5 + n))) LN (fun h => cut_addr1 ((fun h => hAr (by omega)) (by omega)) (by omega)) OG) (by rintro _ _ ⟨A103, b103, c103, g103a, g103b, rfl, rfl⟩; rfl) ?_)
 rintro _ _ ⟨A103, b103, c103, g103a, g103b, rfl, rfl⟩
 refine At.p (some 104) (P_nilCheck rfl rfl) ?_
 refine At.p (some 105) (P_fieldAddr0 (off := 0) rfl Tryd.underlying66 rfl sz36 rfl rfl) ?_
 refine At.s (S_store none (k := 0) rfl rfl rfl sz36 rfl rfl rfl LN ?_)
 refine At.nil ?_
 refine At.next ?_
 refine At.seq ?_
 refine At.region ?_
 refine At.p (some 106) (P_move rfl rfl) ?_
 refine At.p (some 107) (P_move rfl rfl) ?_
 refine At.p (some 2) (P_assign rfl rfl) ?_
 refine At.p (some 3) (P_assign rfl rfl) ?_
 refine At.p (some 4) (P_assign rfl rfl) ?_
 refine At.p (some 5) (P_assign rfl rfl) ?_
 refine At.nil ?_
 refine At.next ?_
 refine At.ret ?_
 have e1 : (c.drop 5).take (5 + n - 5) = (c.drop 5).take n := by rw [Nat.add_sub_cancel_left]
 have e2 : (c.drop (5 + n)).take (c.length - (5 + n)) = c.drop (5 + n) := List.take_of_length_le (by rw [List.length_drop]; exact Nat.le_refl _)
 have e3 : ((c.getD 0 0#8).toNat : Int) = 23 := by rw [hh.h0 (by omega)]; rfl
 refine At.give (.inl rfl) [0, 103, 94] (rows' := [_, _, _]) (vs := [_, _, _, _]) rfl ⟨rfl, rfl, rfl, rfl, trivial⟩ rfl (by simp) (by simp) ⟨A94, b94, c94, A103, b103, c103, g94a, by rw [← e1]; exact g94b, g103a, by rw [← e2]; exact g103b, by rw [e3, e1]; rfl, by rw [e1, e2]; rfl⟩

set_option maxHeartbeats 2000000 in
theorem s_Left {br bl cr : Nat} {c : List (BitVec 8)} {Ar : Option Addr} (hAr : 0 < cr → Ar = some ⟨bl, 0, none⟩) (hcr : c.length ≤ cr) (hcl : c.length ≤ 100000) :
  Con Tryd.prog 19 [ptr br 0] [⟨false, br, 0, 66, [.slice Ar c.length cr, iV 0], 0⟩, ⟨false, bl, 0, 5, (c).map u8V, cr - (c).length⟩] (fun v rs => ∃ (A' : Option Addr) (b' c' : Nat), (0 < c' → A' = some ⟨b', 0, none⟩) ∧ c.length ≤ c' ∧ v = .slice A' c.length c' ∧ rs = [⟨true, b', 0, 5, (c).map u8V, c' - (c).length⟩]) := by
 refine Con.enter Tryd.func19 Tryd.ntmps19 (Nat.le_of_ble_eq_true rfl) rfl fun w => ?_
 refine At.seq ?_
 refine At.region ?_
 refine At.p (some 2) (P_assign rfl rfl) ?_
 refine At.nil ?_
 refine At.next ?_
 refine At.seq ?_
 refine At.seq ?_
 refine At.region ?_
 refine At.p (some 3) (P_move rfl rfl) ?_
 refine At.p (some 4) (P_eql_ptr rfl rfl rfl Tryd.underlying48) ?_
 refine At.nil ?_
 refine At.next ?_
 refine At.cond rfl (fun h4 => by simp at h4) (fun h4 => ?_)
 refine At.skip ?_
 refine At.next ?_
 refine At.seq ?_
 refine At.region ?_
 refine At.p (some 5) (P_move rfl rfl) ?_
 refine At.p (some 6) (P_nilCheck rfl rfl) ?_
 refine At.p (some 7) (P_fieldAddr0 (off := 0) rfl Tryd.underlying66 rfl sz36 rfl rfl) ?_
 refine At.q (some 8) (Q_loadO (k := 0) rfl rfl Tryd.underlying36 rfl rfl rfl) ?_
 refine At.s (S_callV (some 9) [(1, _)] [9] (vs := [_]) rfl en23 rfl (VN (by simp) rfl View.all V0) (by simp) (c_BClone (b := c) (nb := c.length) (Ab := Ar) (cb := cr) (bb := bl) (qb := 0) LN (fun h => hAr (by omega)) OG) (by rintro _ _ ⟨A9, b9, c9, g9a, g9b, rfl, rfl⟩; rfl) ?_)
 rintro _ _ ⟨A9, b9, c9, g9a, g9b, rfl, rfl⟩
 refine At.p (some 2) (P_assign rfl rfl) ?_
 refine At.nil ?_
 refine At.next ?_
 refine At.ret ?_
 refine At.give (.inl rfl) [9] (rows' := [_]) (vs := [_]) rfl ⟨rfl, trivial⟩ rfl (by simp) (by simp) ⟨A9, b9, c9, g9a, (by first | omega | (simp; done) | (simp <;> omega) | exact Nat.le_refl _), rfl, rfl⟩


end Go.Proofs.YtcjfkmhijfcciaaDoor

