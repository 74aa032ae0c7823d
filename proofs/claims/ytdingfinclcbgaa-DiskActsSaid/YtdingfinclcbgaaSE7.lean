/- Copies, strings, slices held against nil. -/
import Derived.Test.YtdingfinclcbgaaSE6
import Derived.Laws.BytesString
namespace Go
namespace SE
open Go.RowKit
set_option linter.unusedVariables false
set_option linter.unusedSimpArgs false

/-- Bytes as a string. -/
def strB (l : List (BitVec 8)) : ByteArray := ⟨(l.map UInt8.ofBitVec).toArray⟩
abbrev strV (l : List (BitVec 8)) : Value := .string (strB l)
def ofStr (s : ByteArray) : List (BitVec 8) := s.data.toList.map UInt8.toBitVec
theorem strB_ofStr (s : ByteArray) : strB (ofStr s) = s := by
  unfold strB ofStr
  rw [List.map_map, show (UInt8.ofBitVec ∘ UInt8.toBitVec) = id from rfl, List.map_id]
theorem ofStr_strB (l : List (BitVec 8)) : ofStr (strB l) = l := by
  unfold strB ofStr
  simp only [List.map_map]
  rw [show (UInt8.toBitVec ∘ UInt8.ofBitVec) = id from rfl, List.map_id]
theorem strB_size (l : List (BitVec 8)) : (strB l).size = l.length := by simp [strB, ByteArray.size]
theorem ofStr_length (s : ByteArray) : (ofStr s).length = s.size := by
  unfold ofStr ByteArray.size
  rw [List.length_map, Array.length_toList]
theorem strB_append (a b : List (BitVec 8)) : strB a ++ strB b = strB (a ++ b) := by
  apply ByteArray.ext
  simp [strB]
theorem strB_inj {a b : List (BitVec 8)} (h : strB a = strB b) : a = b := by rw [← ofStr_strB a, h, ofStr_strB]
theorem toList_eq (s : ByteArray) : s.toList = s.data.toList := ByteArray.toList_eq s
theorem strB_beq (a b : List (BitVec 8)) : ((strB a).toList == (strB b).toList) = decide (a = b) := by
  rw [toList_eq, toList_eq, Bool.eq_iff_iff]
  simp only [beq_iff_eq, decide_eq_true_eq]
  constructor
  · intro h
    apply strB_inj
    apply ByteArray.ext
    exact Array.ext' h
  · intro h; rw [h]
theorem strB_extract (l : List (BitVec 8)) (i j : Nat) : (strB l).extract i j = strB ((l.take j).drop i) := by
  apply ByteArray.ext
  simp [strB, List.drop_take, List.map_take, List.map_drop]

section
variable {P : Program} {E : Env} {fr : Fr} {H : Hp} {o : Oper} {t ty : TypeId} {x y : Operand} {v : Value}

theorem run_eql_strs (op : BinOp) (a b : List (BitVec 8)) (t : TypeId) (w : World) (h : op = .eql ∨ op = .neq) : (binOp op t (strV a) (strV b)).run P w = .ok (.bool (match op with | .eql => decide (a = b) | _ => !decide (a = b))) w := by
  have h1 := strB_beq a b
  rcases h with rfl | rfl
  · simp only [binOp, Op.stringOp, h1, Sem.run_pure]
  · simp only [binOp, Op.stringOp, h1, Sem.run_pure]
theorem P_eql_str {a b : List (BitVec 8)} (ho : o.op = .binOp .eql t x y ty) (hx : fr.ev x = some (strV a)) (hy : fr.ev y = some (strV b)) : PStep P fr o (.bool (decide (a = b))) := by
  intro A hA w
  have := run_eql_strs (P := P) .eql a b t w (Or.inl rfl)
  unfold execOp
  simp [ho, hA.ev hx, hA.ev hy, eqGuard, this]
theorem P_neq_str {a b : List (BitVec 8)} (ho : o.op = .binOp .neq t x y ty) (hx : fr.ev x = some (strV a)) (hy : fr.ev y = some (strV b)) : PStep P fr o (.bool (!decide (a = b))) := by
  intro A hA w
  have := run_eql_strs (P := P) .neq a b t w (Or.inr rfl)
  unfold execOp
  simp [ho, hA.ev hx, hA.ev hy, eqGuard, this]
theorem P_add_str {a b : List (BitVec 8)} (ho : o.op = .binOp .add t x y ty) (hx : fr.ev x = some (strV a)) (hy : fr.ev y = some (strV b)) (hl : a.length + b.length ≤ 9223372036854775807) : PStep P fr o (strV (a ++ b)) := by
  intro A hA w
  unfold execOp
  have h1 : ¬ ((9223372036854775807 : Int) < ((strB a).size : Int) + ((strB b).size : Int)) := by rw [strB_size, strB_size]; omega
  simp [ho, hA.ev hx, hA.ev hy, eqGuard, binOp, Op.stringOp, IntKind.max, IntKind.signed, IntKind.bits, h1, strB_append]
theorem P_len_strV {a : List (BitVec 8)} {c : Call} (ho : o.op = .call c) (hc : c = ⟨.builtin .len, #[x], #[t]⟩) (ht : P.underlying t = some .string) (hx : fr.ev x = some (strV a)) : PStep P fr o (iV (a.length : Int)) := by
  have := P_len_str (P := P) ho hc ht hx
  rwa [strB_size] at this
theorem foldl_push : ∀ (l : List (BitVec 8)) (s : ByteArray), (l.map fun b : BitVec 8 => (b.toNat : Int)).foldl (fun r n => r.push (UInt8.ofNat n.toNat)) s = ⟨s.data ++ (l.map UInt8.ofBitVec).toArray⟩
  | [], s => by simp
  | b :: l, s => by
    rw [List.map_cons, List.foldl_cons, foldl_push l]
    apply ByteArray.ext
    simp [ByteArray.push]
theorem run_b2s_arr {P : Program} {w : World} {A : Addr} {l : List (BitVec 8)} {c : Nat} (h : (loadCells A l.length).run P w = .ok (l.map u8V).toArray w) : (Conv.bytesToString (.slice (some A) l.length c)).run P w = .ok (strV l) w := by
  have h1 := run_bytesToString (P := P) w A l.length c (l.map fun b : BitVec 8 => (b.toNat : Int)) (by rw [List.map_map]; exact h)
  rw [h1, foldl_push]
  congr 2
  apply ByteArray.ext
  simp [strB]
theorem Q_str {s d e : TypeId} {A : Option Addr} {l : List (BitVec 8)} {c b q k j : Nat} {r : Row} (ho : o.op = .convert s d x) (hs : P.underlying s = some (.slice e)) (he : P.underlying e = some (.int .u8)) (hd : P.underlying d = some .string)
    (hx : fr.ev x = some (.slice A l.length c)) (hA : 0 < l.length → A = some ⟨b, q, none⟩) (hk : 0 < l.length → H k = some r ∧ r.b = b ∧ r.s + j = q) (hn : (r.cells.drop j).take l.length = l.map u8V) : QStep P E fr H o (strV l) := by
  intro a w R
  have hrun : (Conv.bytesToString (.slice A l.length c)).run P w = .ok (strV l) w := by
    cases A with
    | none =>
      have : l = [] := by
        cases l with
        | nil => rfl
        | cons b l => have := hA (by simp); cases this
      subst this
      rfl
    | some p =>
      refine run_b2s_arr ?_
      by_cases h0 : 0 < l.length
      · obtain ⟨h1, h2, h3⟩ := hk h0
        have hp := Option.some.inj (hA h0)
        subst hp h2 h3
        have := run_loadCells_list (P := P) (w := w) ⟨r.b, r.s + j, none⟩ (l.map u8V) (fun i v hi => by
          rw [add_addr, Nat.add_assoc]
          refine R.heap.cell R.chg h1 ?_
          rw [← hn, List.getElem?_take] at hi
          rw [← List.getElem?_drop]
          split at hi
          · exact hi
          · cases hi)
        rwa [List.length_map] at this
      · have : l = [] := List.eq_nil_of_length_eq_zero (by omega)
        subst this
        simp [loadCells, loadCellsFrom]
  unfold execOp
  simp [ho, R.ev hx, convert, run_underlying hs, run_underlying hd, run_underlying he, hrun]

theorem Q_strN {s d e : TypeId} {A : Option Addr} {l : List (BitVec 8)} {n c b q k j : Nat} {r : Row} (hl : l.length = n) (ho : o.op = .convert s d x) (hs : P.underlying s = some (.slice e)) (he : P.underlying e = some (.int .u8)) (hd : P.underlying d = some .string)
    (hx : fr.ev x = some (.slice A n c)) (hA : 0 < n → A = some ⟨b, q, none⟩) (hk : 0 < n → H k = some r ∧ r.b = b ∧ r.s + j = q) (hn : (r.cells.drop j).take n = l.map u8V) : QStep P E fr H o (strV l) := by
  subst hl
  exact Q_str ho hs he hd hx hA hk hn
theorem P_eql_slnil {t e : TypeId} {A : Option Addr} {n c n' c' : Nat} (ho : o.op = .binOp .eql t x y ty) (ht : P.underlying t = some (.slice e)) (hx : fr.ev x = some (.slice A n c)) (hy : fr.ev y = some (.slice none n' c')) : PStep P fr o (.bool A.isNone) := by
  intro a ha w
  have h : (Op.equal t (.slice A n c) (.slice none n' c')).run P w = .ok A.isNone w := by
    have h : ∀ d, (Op.equalIn (d + 1) t (.slice A n c) (.slice none n' c')).run P w = .ok A.isNone w := fun d => by cases A <;> simp [Op.equalIn, run_underlying ht]
    exact h 9999
  unfold execOp
  cases A <;> simp at h <;> simp [ho, ha.ev hx, ha.ev hy, eqGuard, binOp, h]
theorem run_eql_bool (t : TypeId) (ht : P.underlying t = some .bool) (a b : Bool) (w : World) : (Op.equal t (.bool a) (.bool b)).run P w = .ok (a == b) w := by
  have h : ∀ d, (Op.equalIn (d + 1) t (.bool a) (.bool b)).run P w = .ok (a == b) w := fun d => by simp [Op.equalIn, run_underlying ht]
  exact h 9999
theorem P_eql_bool {a b : Bool} (ho : o.op = .binOp .eql t x y ty) (ht : P.underlying t = some .bool) (hx : fr.ev x = some (.bool a)) (hy : fr.ev y = some (.bool b)) : PStep P fr o (.bool (a == b)) := by
  intro A hA w
  have h := run_eql_bool (P := P) t ht a b w
  unfold execOp
  simp [ho, hA.ev hx, hA.ev hy, eqGuard, binOp, h]
theorem P_neq_bool {a b : Bool} (ho : o.op = .binOp .neq t x y ty) (ht : P.underlying t = some .bool) (hx : fr.ev x = some (.bool a)) (hy : fr.ev y = some (.bool b)) : PStep P fr o (.bool (!(a == b))) := by
  intro A hA w
  have h := run_eql_bool (P := P) t ht a b w
  unfold execOp
  simp [ho, hA.ev hx, hA.ev hy, eqGuard, binOp, h]

/-- A label more, of no cells. -/
theorem At.empty {T : Act → World → Prop} (k b : Nat) (e : TypeId) (h : At E fr (H.set k ⟨true, b, 0, e, [], 0⟩) T) : At E fr H T :=
  fun a w R => h a w ⟨R.df, R.size, R.fr, R.chg, R.heap.empty k b e⟩

theorem made_repl {c : Value} (m n : Nat) : (madeCells (Value.cells (.agg (List.replicate (m + 1) c).toArray)) n).toList = List.replicate n c :=
  made_const (fun u hu => (List.mem_replicate.1 (List.mem_toArray.1 hu)).2) (by show (List.replicate (m + 1) c).toArray.size ≠ 0; simp)
theorem View.sub {α : Type} {f : α → Value} {S L : List α} {b s s' j m t rest : Nat} {ow : Bool} {ty ty' : TypeId} (hq : s' = s + j) (hL : L = (S.drop j).take m) : View ⟨ow, b, s, ty, S.map f, rest⟩ ⟨false, b, s', ty', L.map f, t⟩ := by
  subst hq hL
  refine ⟨rfl, rfl, j, rfl, fun i v h => ?_⟩
  dsimp only at h ⊢
  rw [List.map_take, List.map_drop, List.getElem?_take] at h
  split at h
  · rwa [List.getElem?_drop] at h
  · cases h
theorem made_one {c : Value} {n N : Nat} (h : N = n * 1) (hc : c.cells = #[c] := by rfl) : (madeCells (Value.cells c) N).toList = List.replicate n c := by
  rw [hc, h, Nat.mul_one]
  exact made_const (by simp) (by simp)
theorem fill_set {α : Type} (f : Nat → α) (z : α) {k n : Nat} (h : k < n) : ((List.range k).map f ++ List.replicate (n - k) z).set k (f k) = (List.range (k + 1)).map f ++ List.replicate (n - (k + 1)) z := by
  rw [List.set_append_right _ _ (by simp)]
  simp only [List.length_map, List.length_range, Nat.sub_self]
  rw [show n - k = (n - (k + 1)) + 1 by omega, List.replicate_succ, List.set_cons_zero, List.range_succ]
  simp
theorem P_indexAddr_slz {t e : TypeId} {b len cap j : Nat} {A : Option Addr} {k : IntKind} {i : Int} {ix : Operand} (ho : o.op = .indexAddr t x ix) (ht : P.underlying t = some (.slice e)) (hz : tsz P e = some 1)
    (hx : fr.ev x = some (.slice A len cap)) (hA : A = some ⟨b, 0, none⟩) (hi : fr.ev ix = some (.int k i)) (hj : i = (j : Int)) (hlt : j < len) : PStep P fr o (.pointer (some ⟨b, j, none⟩)) := by
  have h := P_indexAddr_sl1 (P := P) ho ht hz hx hA hi hj hlt
  rwa [Nat.zero_add] at h
theorem P_conv_WiE {s d : TypeId} {a : BitVec 64} {z : Int} (hz : a.toInt = z) (ho : o.op = .convert s d x) (hs : P.underlying s = some (.int .u64)) (hd : P.underlying d = some (.int .i64)) (hx : fr.ev x = some (.int .u64 (a.toNat : Int))) : PStep P fr o (.int .i64 z) :=
  hz ▸ P_conv_Wi ho hs hd hx
/-! ### copy -/
def Src2 (P : Program) (E : Env) (fr : Fr) (H : Hp) (y : Operand) (m n : Nat) (news : List Value) : Prop :=
  ∀ a w, Rep E fr H a w → (Builtin.lenOf (a.eval y)).run P w = .ok m w ∧ (Builtin.firstCells 1 n (a.eval y)).run P w = .ok news.toArray w
theorem Src2.row {m n c b q k j : Nat} {A : Option Addr} {r : Row} {news : List Value} (hy : fr.ev y = some (.slice A m c)) (hA : 0 < n → A = some ⟨b, q, none⟩) (hk : 0 < n → H k = some r ∧ r.b = b ∧ r.s + j = q) (hn : (r.cells.drop j).take n = news) (hl : news.length = n) : Src2 P E fr H y m n news := by
  intro a w R
  rw [R.ev hy]
  refine ⟨by simp [Builtin.lenOf], ?_⟩
  by_cases h0 : n = 0
  · subst h0
    have : news = [] := List.eq_nil_of_length_eq_zero (by simpa using hl)
    subst this
    cases A <;> simp [Builtin.firstCells, loadCells, loadCellsFrom]
  · obtain ⟨h1, h2, h3⟩ := hk (by omega)
    rw [hA (by omega)]
    subst h2 h3
    have := run_loadCells_list (P := P) (w := w) ⟨r.b, r.s + j, none⟩ news (fun i v hi => by
      rw [add_addr, Nat.add_assoc]
      refine R.heap.cell R.chg h1 ?_
      rw [← hn, List.getElem?_take] at hi
      rw [← List.getElem?_drop]
      split at hi
      · exact hi
      · cases hi)
    rw [hl] at this
    simp [Builtin.firstCells, this]
theorem S_copy (d : Option Tmp) (k : Nat) {t tx e : TypeId} {b p dl dc m n rest : Nat} {A : Option Addr} {ty : TypeId} {cells news : List Value} {K : Fr → Hp → Prop}
    (ho : o.op = .call ⟨.builtin .copy, #[x, y], #[t, tx]⟩) (ht : P.underlying t = some (.slice e)) (hz : tsz P e = some 1) (hx : fr.ev x = some (.slice A dl dc)) (hA : 0 < n → A = some ⟨b, p, none⟩)
    (hk : H k = some ⟨true, b, 0, ty, cells, rest⟩) (hs : Src2 P E fr H y m n news) (hn : n = min m dl) (hl : news.length = n) (h1 : ∀ u ∈ news, u.oneCell' = true) (hp : p + n ≤ cells.length)
    (h : K (fr.put E.n d (.int .i64 (n : Int))) (H.set k ⟨true, b, 0, ty, splice cells p news, rest⟩)) (hd : o.dst = d := by rfl) : SStep P E true fr H o K := by
  subst hd
  intro a w R
  obtain ⟨s1, s2⟩ := hs a w R
  have hm : Nat.min m dl = n := hn.symm
  have R' := R.put o.dst (.int .i64 (n : Int))
  by_cases hpos : 0 < n
  · have hz0 : cells.length + rest ≠ 0 := by omega
    obtain ⟨_, e2, e3, tl, fz, e4, e5, e6⟩ := R.heap.own_ hk rfl hz0
    dsimp only at e2 e3 e4 e5 e6
    obtain ⟨w', r1, r2, r3⟩ := run_stores (P := P) b p ty fz news 0 (cells ++ tl) w e6 (by simp; omega) (by rcases e5 with e5 | e5; exact Or.inl e5; right; simp; omega) h1
    have hA' := hA hpos
    subst hA'
    have hrun : (execOp a.eval o).run P w = .ok (.value (.int .i64 (n : Int))) w' := by
      unfold execOp
      simp [ho, R.ev hx, resolve, invoke, builtin, Builtin.copy_, run_underlying ht, s1, run_tsz hz, hm, s2, r1, goInt]
    unfold Oper.wp
    rw [hrun]
    refine ⟨fun hh => (by cases hh), _, _, h, ?_⟩
    refine ⟨R'.df, R'.size, R'.fr, R.chg.trans_new r2 ?_, ?_⟩
    · intro q hq
      obtain rfl : q = b := by simpa using hq
      exact e3
    · refine R.heap.write (r := ⟨true, b, 0, ty, cells, rest⟩) hk rfl hz0 (by dsimp only; rw [splice_length _ _ _ (by omega)]) r2 fun tl' fz' ht' hh' => ?_
      dsimp only at hh' ht' ⊢
      rw [e6] at hh'
      simp only [Option.some.injEq, Obj.cells.injEq] at hh'
      obtain ⟨g1, _, g3⟩ := hh'
      have g1 : cells ++ tl = cells ++ tl' := by simpa using g1
      have g1 := List.append_cancel_left g1
      subst g1 g3
      exact ⟨tl, e4, by rw [r3, Nat.add_zero, splice_append _ _ _ _ (by omega)]⟩
  · have hn0 : n = 0 := by omega
    subst hn0
    have hnews : news = [] := List.eq_nil_of_length_eq_zero hl
    subst hnews
    have hrun : (execOp a.eval o).run P w = .ok (.value (.int .i64 ((0 : Nat) : Int))) w := by
      unfold execOp
      cases A <;> simp [ho, R.ev hx, resolve, invoke, builtin, Builtin.copy_, run_underlying ht, s1, run_tsz hz, hm, s2, goInt, storeCells]
    unfold Oper.wp
    rw [hrun]
    refine ⟨fun hh => (by cases hh), _, _, h, ?_⟩
    refine ⟨R'.df, R'.size, R'.fr, R.chg, ?_⟩
    rw [splice_nil]
    refine ⟨fun i r hr => ?_, fun i j r r' hr hr' => ?_⟩
    · rcases Hp.set_some hr with ⟨rfl, rfl⟩ | ⟨_, hr⟩
      · exact R.heap.row _ _ hk
      · exact R.heap.row i r hr
    · rcases Hp.set_some hr with ⟨e1, e2⟩ | ⟨_, hq⟩ <;> rcases Hp.set_some hr' with ⟨e3, e4⟩ | ⟨_, hq'⟩
      · subst e1 e2 e3 e4; exact R.heap.apart _ _ _ _ hk hk
      · subst e1 e2; exact R.heap.apart _ _ _ _ hk hq'
      · subst e3 e4; exact R.heap.apart _ _ _ _ hq hk
      · exact R.heap.apart i j r r' hq hq'
theorem splice_map {α β : Type} (f : α → β) (cs vs : List α) (p : Nat) : splice (cs.map f) p (vs.map f) = (splice cs p vs).map f := by
  simp [splice, List.map_take, List.map_drop]
theorem S_copyM {α : Type} {f : α → Value} {S L : List α} (d : Option Tmp) (k ks : Nat) {t tx e : TypeId} {b bq p q dl dc m n j rest cy : Nat} {A Ay : Option Addr} {ty : TypeId} {r : Row} {K : Fr → Hp → Prop}
    (ho : o.op = .call ⟨.builtin .copy, #[x, y], #[t, tx]⟩) (ht : P.underlying t = some (.slice e)) (hz : tsz P e = some 1) (hx : fr.ev x = some (.slice A dl dc)) (hA : 0 < n → A = some ⟨b, p, none⟩)
    (hk : H k = some ⟨true, b, 0, ty, S.map f, rest⟩) (hy : fr.ev y = some (.slice Ay m cy)) (hAy : 0 < n → Ay = some ⟨bq, q, none⟩) (hks : 0 < n → H ks = some r ∧ r.b = bq ∧ r.s + j = q) (hL : (r.cells.drop j).take n = L.map f)
    (hn : n = min m dl) (hl : L.length = n) (h1 : ∀ u : α, (f u).oneCell' = true) (hp : p + n ≤ S.length)
    (h : K (fr.put E.n d (.int .i64 (n : Int))) (H.set k ⟨true, b, 0, ty, (splice S p L).map f, rest⟩)) (hd : o.dst = d := by rfl) : SStep P E true fr H o K :=
  S_copy d k ho ht hz hx hA hk (Src2.row hy hAy hks hL (by simpa using hl)) hn (by simpa using hl) (by intro u hu; obtain ⟨z, _, rfl⟩ := List.mem_map.1 hu; exact h1 z) (by simpa using hp) (by rw [splice_map]; exact h) hd
/-- append, what comes of it under names. -/
theorem S_appendN (d : Option Tmp) (k : Nat) (N : Nat) (C : List Value) {t tx e : TypeId} {D : TypeDesc} {sz by_ b n c m rest : Nat} {A : Option Addr} {z : Value} {cells news : List Value} {K : Fr → Hp → Prop}
    (ho : o.op = .call ⟨.builtin .append, #[x, y], #[t, tx]⟩) (ht : P.underlying t = some (.slice e)) (htx : P.underlying tx = some D) (hD : D = .string ∨ ∃ e', D = .slice e') (hz : tsz P e = some sz) (hby : tby P e = some by_) (hzz : tze P e = some z) (hzc : z.cells.size = sz)
    (hx : fr.ev x = some (.slice A n c)) (hk : 0 < c → A = some ⟨b, 0, none⟩ ∧ H k = some ⟨true, b, 0, e, cells, rest⟩) (hlen : cells.length = n * sz) (hcap : n * sz + rest = c * sz) (hnc : n ≤ c)
    (hs : Src P E fr H sz y m news) (h1 : ∀ u ∈ news, u.oneCell' = true) (hsz : 0 < sz) (hmax : n + m ≤ 140737488355328) (hbytes : (n + m) * by_ ≤ 140737488355328) (hN : n + m = N) (hC : cells ++ news = C)
    (h : ∀ (A' : Option Addr) (b' c' : Nat), (0 < c' → A' = some ⟨b', 0, none⟩) → N ≤ c' → K (fr.put E.n d (.slice A' N c')) (H.set k ⟨true, b', 0, e, C, (c' - N) * sz⟩)) (hd : o.dst = d := by rfl) : SStep P E true fr H o K := by
  subst hN hC
  exact S_append d k ho ht htx hD hz hby hzz hzc hx hk hlen hcap hnc hs h1 hsz hmax hbytes h hd
/-- .. of cells of one kind, one cell each: bytes, words. -/
theorem S_appendM {α : Type} {f : α → Value} {l L : List α} (d : Option Tmp) (k : Nat) (M : List α) {t tx e : TypeId} {D : TypeDesc} {by_ b n c m rest : Nat} {A : Option Addr} {z : Value} {K : Fr → Hp → Prop}
    (ho : o.op = .call ⟨.builtin .append, #[x, y], #[t, tx]⟩) (ht : P.underlying t = some (.slice e)) (htx : P.underlying tx = some D) (hD : D = .string ∨ ∃ e', D = .slice e') (hz : tsz P e = some 1) (hby : tby P e = some by_) (hzz : tze P e = some z) (hzc : z.cells.size = 1)
    (hx : fr.ev x = some (.slice A n c)) (hk : 0 < c → A = some ⟨b, 0, none⟩ ∧ H k = some ⟨true, b, 0, e, l.map f, rest⟩) (hlen : l.length = n) (hcap : n + rest = c)
    (hs : Src P E fr H 1 y m (L.map f)) (h1 : ∀ u, (f u).oneCell' = true) (hmax : n + m ≤ 140737488355328) (hbytes : (n + m) * by_ ≤ 140737488355328) (hM : l ++ L = M) (hm : L.length = m)
    (h : ∀ (A' : Option Addr) (b' c' : Nat), (0 < c' → A' = some ⟨b', 0, none⟩) → M.length ≤ c' → K (fr.put E.n d (.slice A' M.length c')) (H.set k ⟨true, b', 0, e, M.map f, c' - M.length⟩)) (hd : o.dst = d := by rfl) : SStep P E true fr H o K := by
  subst hM hlen hm
  refine S_append d k ho ht htx hD hz hby hzz hzc hx hk (by simp) (by omega) (by omega) hs (by intro u hu; obtain ⟨z, _, rfl⟩ := List.mem_map.1 hu; exact h1 z) (by decide) hmax hbytes (fun A' b' c' g1 g2 => ?_) hd
  have := h A' b' c' g1 (by simpa using g2)
  rw [List.length_append, List.map_append] at this
  rw [Nat.mul_one]
  exact this
end
end SE
end Go
