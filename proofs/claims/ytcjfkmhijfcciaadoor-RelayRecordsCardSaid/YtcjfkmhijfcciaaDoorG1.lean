import Derived.Laws.Externs
import Derived.KernelRfl
import Derived.SizedLaws
import Derived.LaidMore
import Derived.Lay
import Derived.SevenTiedAt
import Derived.Stop.Joined
import Derived.Test.YtcjfkmhijfcciaaDoorG0
/- Rows whose cells are segments, one behind the other; sources and views of whole rows and of parts. Generic (no program). -/
namespace Go
namespace SE
open Go.RowKit
set_option linter.unusedVariables false
set_option linter.unusedSimpArgs false
section
variable {α : Type} {l : List (List α)} {i j m n p : Nat} {x vs : List α} {v : α}
theorem seg_split (hx : l[i]? = some x) : l.flatten = (l.take i).flatten ++ (x ++ (l.drop (i + 1)).flatten) := by
 have hi : i < l.length := by
  rcases Nat.lt_or_ge i l.length with h | h
  · exact h
  · rw [List.getElem?_eq_none h] at hx; cases hx
 rw [List.getElem?_eq_getElem hi] at hx
 obtain rfl := Option.some.inj hx
 conv => lhs; rw [← List.take_append_drop i l, List.flatten_append, List.drop_eq_getElem_cons hi, List.flatten_cons]
theorem seg_at (hx : l[i]? = some x) (hj : ((l.take i).flatten).length = j) (hn : x.length = n) : (l.flatten.drop j).take n = x := by
 rw [seg_split hx, List.drop_left' hj, List.take_left' hn]
end
def OneC (vs : List Value) : Prop := ∀ u ∈ vs, u.oneCell' = true
theorem one_map {α : Type} {f : α → Value} {L : List α} (h : ∀ u, (f u).oneCell' = true) : OneC (L.map f) := by
 intro u hu
 obtain ⟨z, _, rfl⟩ := List.mem_map.1 hu
 exact h z
theorem one_nil : OneC [] := by intro u hu; cases hu
theorem one_cons {v : Value} {vs : List Value} (h : v.oneCell' = true) (t : OneC vs) : OneC (v :: vs) := by
 intro u hu
 rcases List.mem_cons.1 hu with rfl | hu
 · exact h
 · exact t u hu
theorem one_flat0 : OneC ([] : List (List Value)).flatten := one_nil
theorem one_flatc {x : List Value} {l : List (List Value)} (h : OneC x) (t : OneC l.flatten) : OneC (x :: l).flatten := by
 intro u hu
 rw [List.flatten_cons] at hu
 rcases List.mem_append.1 hu with hu | hu
 · exact h u hu
 · exact t u hu
section
variable {P : Program} {E : Env} {fr : Fr} {H : Hp} {o : Oper} {t ty : TypeId} {x y : Operand} {v : Value}
/-- The same cells, told otherwise. -/
theorem At.row {T : Act → World → Prop} (k : Nat) (r : Row) {cs : List Value} (hk : H k = some ⟨r.own, r.b, r.s, r.ty, cs, r.rest⟩) (hcs : cs = r.cells) (h : At E fr (H.set k r) T) : At E fr H T := by
 subst hcs
 refine At.weak (fun _ _ h => h) (fun i r' hr => ?_) h
 rcases Hp.set_some hr with ⟨rfl, rfl⟩ | ⟨_, hr⟩
 · exact hk
 · exact hr
/-- Of a row of one kind less is known. -/
theorem At.forgetM {T : Act → World → Prop} {α : Type} {f : α → Value} {l l' : List α} (k : Nat) {b rest : Nat} {ty : TypeId} (hk : H k = some ⟨true, b, 0, ty, (l ++ l').map f, rest⟩) (h : At E fr (H.set k ⟨true, b, 0, ty, l.map f, rest + l'.length⟩) T) : At E fr H T :=
 At.forget k (cs := l.map f) (cs' := l'.map f) (by rw [hk, List.map_append]) (by rw [List.length_map]; exact h)
theorem Src.all {α : Type} {f : α → Value} {l : List α} {m c b q k : Nat} {A : Option Addr} {r : Row} (hy : fr.ev y = some (.slice A m c)) (hA : 0 < m → A = some ⟨b, q, none⟩) (hk : 0 < m → H k = some r ∧ r.b = b ∧ r.s + 0 = q) (hl : l.length = m) (hc : r.cells = l.map f := by rfl) : Src P E fr H 1 y m (l.map f) :=
 Src.row (j := 0) hy hA hk (by rw [hc, List.drop_zero, List.take_of_length_le (by rw [List.length_map]; omega)]) (by rw [List.length_map]; omega)
theorem Src.part {α : Type} {f : α → Value} {l : List α} {m c b q k j : Nat} {A : Option Addr} {r : Row} (hy : fr.ev y = some (.slice A m c)) (hA : 0 < m → A = some ⟨b, q, none⟩) (hk : 0 < m → H k = some r ∧ r.b = b ∧ r.s + j = q) (hl : j + m ≤ l.length) (hc : r.cells = l.map f := by rfl) : Src P E fr H 1 y m (((l.drop j).take m).map f) :=
 Src.row (j := j) hy hA hk (by rw [hc, Nat.mul_one, ← List.map_drop, ← List.map_take]) (by rw [List.length_map, List.length_take, List.length_drop]; omega)
theorem Q_strA {s d e : TypeId} {A : Option Addr} {l : List (BitVec 8)} {n c b q k : Nat} {r : Row} (hl : l.length = n) (ho : o.op = .convert s d x) (hs : P.underlying s = some (.slice e)) (he : P.underlying e = some (.int .u8)) (hd : P.underlying d = some .string)
  (hx : fr.ev x = some (.slice A n c)) (hA : 0 < n → A = some ⟨b, q, none⟩) (hk : 0 < n → H k = some r ∧ r.b = b ∧ r.s + 0 = q) (hc : r.cells = l.map u8V := by rfl) : QStep P E fr H o (strV l) :=
 Q_strN (j := 0) hl ho hs he hd hx hA hk (by rw [hc, List.drop_zero, List.take_of_length_le (by rw [List.length_map]; omega)])
/-- Bytes copied into a segment. -/
theorem Src2.all {l : List (BitVec 8)} {m n c b q k : Nat} {A : Option Addr} {r : Row} (hy : fr.ev y = some (.slice A m c)) (hA : 0 < m → A = some ⟨b, q, none⟩) (hk : 0 < m → H k = some r ∧ r.b = b ∧ r.s + 0 = q) (hn : n ≤ m) (hl : l.length = m) (hc : r.cells = l.map u8V := by rfl) : Src2 P E fr H y m n ((l.take n).map u8V) :=
 Src2.row (j := 0) hy (fun h => hA (by omega)) (fun h => hk (by omega)) (by rw [hc, List.drop_zero, List.map_take]) (by rw [List.length_map, List.length_take]; omega)
end
end SE
end Go


/- A string turned to bytes; a byte of a string. Generic (no program). -/
namespace Go
namespace SE
open Go.RowKit
set_option linter.unusedVariables false
set_option linter.unusedSimpArgs false
section
variable {P : Program} {E : Env} {fr : Fr} {H : Hp} {o : Oper} {t ty : TypeId} {x y : Operand} {v : Value}
theorem P_index_str {l : List (BitVec 8)} {j : Nat} {k : IntKind} {i : Int} {ix : Operand} (ho : o.op = .index t x ix) (ht : P.underlying t = some .string) (hx : fr.ev x = some (strV l)) (hi : fr.ev ix = some (.int k i)) (hj : i = (j : Int)) (hlt : j < l.length) : PStep P fr o (u8V (l.getD j 0#8)) := by
 intro a ha w; unfold execOp
 subst hj
 have hb : (strB l)[j]? = some (UInt8.ofBitVec (l.getD j 0#8)) := by
  have h1 : j < (strB l).size := by rw [strB_size]; exact hlt
  rw [getElem?_pos (strB l) j h1, List.getD_eq_getElem?_getD, List.getElem?_eq_getElem hlt]
  simp [strB, ByteArray.getElem_eq_getElem_data]
 simp [ho, ha.ev hx, ha.ev hi, Instr.index, run_underlying ht, asIntOf, hb]
end
end SE
end Go


/- Remainders as numbers; equality of values that are segments. Generic (no program). -/
namespace Go
namespace SE
open Go.RowKit
set_option linter.unusedVariables false
set_option linter.unusedSimpArgs false
/-! ### Short words for the proofs that come again and again -/
theorem LN {p : Prop} (h : p := by first | assumption | omega | (simp only [List.length_append, List.length_take, List.length_drop, List.length_map, List.length_replicate, List.length_set, List.length_cons, List.length_nil, List.take_succ_cons, List.take_zero, List.flatten_cons, List.flatten_nil, List.set_cons_zero, List.set_cons_succ]; omega) | with_reducible rfl | (simp; done) | (simp <;> omega)) : p := h
theorem OG {p : Prop} (h : p := by first | omega | (simp only [List.length_append, List.length_take, List.length_drop, List.length_map, List.length_replicate, List.length_set, List.length_cons, List.length_nil, List.take_succ_cons, List.take_zero, List.flatten_cons, List.flatten_nil, List.set_cons_zero, List.set_cons_succ] at *; omega) | (simp <;> omega)) : p := h
theorem NG {l : List Value} (h : l.length ≠ 0 := by first | (simp only [List.length_append, List.length_take, List.length_drop, List.length_map, List.length_replicate, List.length_set, List.length_cons, List.length_nil, List.take_succ_cons, List.take_zero, List.flatten_cons, List.flatten_nil, List.set_cons_zero, List.set_cons_succ]; omega) | (simp <;> omega)) : l ≠ [] := by
 rintro rfl
 exact h rfl
theorem DO {p : Prop} (h : p := by first | decide | omega) : p := h
theorem RO {p : Prop} (h : p := by first | rfl | omega) : p := h
theorem LN1 {p : Prop} (h : p := by first | decide | omega | (simp; done) | (simp <;> omega)) : p := h
theorem QStep.congr {P : Program} {E : Env} {fr : Fr} {H : Hp} {o : Oper} {v v' : Value} (h : QStep P E fr H o v) (e : v = v') : QStep P E fr H o v' := e ▸ h
theorem take_full {α : Type} {f : α → Value} {l : List α} {n : Nat} {r : Row} (h : l.length = n) (hc : r.cells = l.map f := by rfl) : (r.cells.drop 0).take n = l.map f := by
 rw [hc, List.drop_zero, List.take_of_length_le (by rw [List.length_map]; omega)]
theorem umod_c (x m : BitVec 64) (h0 : 0 < m.toNat) (h1 : m.toNat ≤ 9223372036854775807) : ∃ k : Nat, k < m.toNat ∧ (x % m).toInt = (k : Int) ∧ k = x.toNat % m.toNat := by
 have h2 : x.toNat % m.toNat < m.toNat := Nat.mod_lt _ h0
 refine ⟨x.toNat % m.toNat, h2, ?_, rfl⟩
 rw [BitVec.toInt_eq_toNat_of_lt (by rw [BitVec.toNat_umod]; omega), BitVec.toNat_umod]
end SE
end Go


/- An array's part of more cells than one; and, or of integers. Generic (no program). -/
namespace Go
namespace SE
open Go.RowKit
set_option linter.unusedVariables false
set_option linter.unusedSimpArgs false
section
variable {P : Program} {fr : Fr} {o : Oper} {t ty : TypeId} {x y : Operand} {v : Value}
theorem P_or_nat {a b : Nat} (ho : o.op = .binOp .or t x y ty) (hx : fr.ev x = some (.int .i64 (a : Int))) (hy : fr.ev y = some (.int .i64 (b : Int))) (ha : a < 9223372036854775808) (hb : b < 9223372036854775808) : PStep P fr o (.int .i64 ((a ||| b : Nat) : Int)) :=
 P_bin' ho hx hy rfl (fun h => absurd h (by decide)) (by
  show Value.int _ (IntKind.i64.wrap ((BitVec.ofInt 64 (a : Int) ||| BitVec.ofInt 64 (b : Int)).toNat : Int)) = _
  have e : (BitVec.ofInt 64 (a : Int) ||| BitVec.ofInt 64 (b : Int)).toNat = a ||| b := by
   rw [BitVec.toNat_or, BitVec.ofInt_natCast, BitVec.ofInt_natCast, BitVec.toNat_ofNat, BitVec.toNat_ofNat, Nat.mod_eq_of_lt (by omega), Nat.mod_eq_of_lt (by omega)]
  have h63 : a ||| b < 2 ^ 63 := Nat.or_lt_two_pow ha hb
  rw [e, i64_in _ (by omega)])
/-- A number moved by eight bits, and a byte. -/
theorem P_or_i8 {a c : Nat} (ho : o.op = .binOp .or t x y ty) (hx : fr.ev x = some (.int .i64 ((a : Int) * 2 ^ 8))) (hy : fr.ev y = some (.int .i64 (c : Int))) (ha : a < 36028797018963968) (hc : c < 256) : PStep P fr o (.int .i64 (((a * 256 + c : Nat)) : Int)) := by
 have h := P_or_nat (P := P) (a := a * 256) (b := c) ho (by rw [hx]; rfl) hy (by omega) (by omega)
 have e : a * 256 ||| c = a * 256 + c := by
  rw [show a * 256 = 2 ^ 8 * a by omega, ← Nat.two_pow_add_eq_or_of_lt (by omega)]
 rw [e] at h
 exact h
end
end SE
end Go


/- Results of which some lie in cells, some in slots. Generic (no program). -/
namespace Go
namespace SE
open Go.RowKit
set_option linter.unusedVariables false
set_option linter.unusedSimpArgs false
section
variable {P : Program} {E : Env} {fr : Fr} {H : Hp} {fn : Func}
/-- What one result is. -/
def ResOne (P : Program) (fr : Fr) (H : Hp) : ResultVar → Value → Prop
 | .tmp t, v => fr t = some v
 | .cell t ty, v => ∃ p, fr t = some (.pointer (some p)) ∧ ∀ E a w, Rep E fr H a w → (loadVar ty p).run P w = .ok v w
theorem ResOne.tmp {t : Tmp} {v : Value} (h : fr t = some v) : ResOne P fr H (.tmp t) v := h
theorem ResOne.cellA {t : Tmp} {ty ty' : TypeId} {b k rest n : Nat} {ow : Bool} {cs : List Value} {D : TypeDesc} (ht : fr t = some (.pointer (some ⟨b, 0, none⟩))) (hD : P.underlying ty = some D) (hd : aggD D = true) (hz : tsz P ty = some n) (hn : cs.length = n)
  (hk : H k = some ⟨ow, b, 0, ty', cs, rest⟩) : ResOne P fr H (.cell t ty) (.agg cs.toArray) := by
 refine ⟨_, ht, fun E a w R => ?_⟩
 subst hn
 have h1 := run_loadCells_list (P := P) (w := w) ⟨b, 0, none⟩ cs (fun i v hi => by
  rw [add_addr]
  exact R.heap.cell R.chg hk hi)
 simp [loadVar, run_isAgg hD, hd, run_tsz hz, h1]
theorem ResV.two {r1 r2 : ResultVar} {v1 v2 : Value} (hr : fn.results = #[r1, r2]) (h1 : ResOne P fr H r1 v1) (h2 : ResOne P fr H r2 v2) : ResV P fr H fn (.tuple #[v1, v2]) := by
 intro E a w R
 have f := R.fr
 cases r1 <;> cases r2 <;> simp only [ResOne] at h1 h2
 · simp [results, hr, f _ _ h1, f _ _ h2]
 ·
  obtain ⟨p, hp, h2⟩ := h2
  simp [results, hr, f _ _ h1, f _ _ hp, asAddr, h2 _ _ _ R]
 ·
  obtain ⟨p, hp, h1⟩ := h1
  simp [results, hr, f _ _ h2, f _ _ hp, asAddr, h1 _ _ _ R]
 ·
  obtain ⟨p, hp, h1⟩ := h1
  obtain ⟨q, hq, h2⟩ := h2
  simp [results, hr, f _ _ hp, f _ _ hq, asAddr, h1 _ _ _ R, h2 _ _ _ R]
theorem ResV.three {r1 r2 r3 : ResultVar} {v1 v2 v3 : Value} (hr : fn.results = #[r1, r2, r3]) (h1 : ResOne P fr H r1 v1) (h2 : ResOne P fr H r2 v2) (h3 : ResOne P fr H r3 v3) : ResV P fr H fn (.tuple #[v1, v2, v3]) := by
 intro E a w R
 have f := R.fr
 cases r1 <;> cases r2 <;> cases r3 <;> simp only [ResOne] at h1 h2 h3
 · simp [results, hr, f _ _ h1, f _ _ h2, f _ _ h3]
 ·
  obtain ⟨p, hp, h3⟩ := h3
  simp [results, hr, f _ _ h1, f _ _ h2, f _ _ hp, asAddr, h3 _ _ _ R]
 ·
  obtain ⟨p, hp, h2⟩ := h2
  simp [results, hr, f _ _ h1, f _ _ h3, f _ _ hp, asAddr, h2 _ _ _ R]
 ·
  obtain ⟨p, hp, h2⟩ := h2
  obtain ⟨q, hq, h3⟩ := h3
  simp [results, hr, f _ _ h1, f _ _ hp, f _ _ hq, asAddr, h2 _ _ _ R, h3 _ _ _ R]
 ·
  obtain ⟨p, hp, h1⟩ := h1
  simp [results, hr, f _ _ h2, f _ _ h3, f _ _ hp, asAddr, h1 _ _ _ R]
 ·
  obtain ⟨p, hp, h1⟩ := h1
  obtain ⟨q, hq, h3⟩ := h3
  simp [results, hr, f _ _ h2, f _ _ hp, f _ _ hq, asAddr, h1 _ _ _ R, h3 _ _ _ R]
 ·
  obtain ⟨p, hp, h1⟩ := h1
  obtain ⟨q, hq, h2⟩ := h2
  simp [results, hr, f _ _ h3, f _ _ hp, f _ _ hq, asAddr, h1 _ _ _ R, h2 _ _ _ R]
 ·
  obtain ⟨p, hp, h1⟩ := h1
  obtain ⟨q, hq, h2⟩ := h2
  obtain ⟨s, hs, h3⟩ := h3
  simp [results, hr, f _ _ hp, f _ _ hq, f _ _ hs, asAddr, h1 _ _ _ R, h2 _ _ _ R, h3 _ _ _ R]
end
end SE
end Go


/- Short words for what the older walks prove at each store. Generic (no program). -/
namespace Go
namespace SE
theorem WA {p : Prop} (h : p := by first | (intro u hu; obtain ⟨z, _, rfl⟩ := List.mem_map.1 hu; rfl) | simp [Value.oneCell']) : p := h
theorem WB {p : Prop} (h : p := by first | (simp; done) | (intro h; have h2 := congrArg List.length h; simp only [List.length_map, List.length_nil] at h2; omega) | (intro h; cases h)) : p := h
theorem WC {p : Prop} (h : p := by first | omega | (simp <;> omega) | rfl | (simp [*]; done)) : p := h
theorem WD {p : Prop} (h : p := by first | omega | (simp <;> omega)) : p := h
end SE
end Go


/- math/bits.Add64, which the model stands in for. Generic (no program). -/
namespace Go
namespace SE
open Go.RowKit
set_option linter.unusedVariables false
set_option linter.unusedSimpArgs false
/-- The carry. -/
def cy (a b c : BitVec 64) : BitVec 64 := BitVec.ofNat 64 ((a.toNat + b.toNat + c.toNat) / 18446744073709551616)
theorem cy_nat {a b c : BitVec 64} (hc : c.toNat ≤ 1) : (cy a b c).toNat = (a.toNat + b.toNat + c.toNat) / 18446744073709551616 := by
 have := a.isLt
 have := b.isLt
 simp [cy]
 omega
theorem cy_le {a b c : BitVec 64} (hc : c.toNat ≤ 1) : (cy a b c).toNat ≤ 1 := by
 have := a.isLt
 have := b.isLt
 rw [cy_nat hc]
 omega
def ExtAdd (P : Program) (f : FuncId) : Prop := ∀ (args : Array Value) (w : World), (callFunc f args).run P w = ((add64Entry args).run P w).andThen fun v w' => .ok (.value v) w'
section
variable {P : Program} {fr : Fr} {o : Oper} {x y z : Operand}
theorem P_add64 {f : FuncId} {a b c : BitVec 64} {tys : Array TypeId} (he : ExtAdd P f) (ho : o.op = .call ⟨.value (.func f), #[x, y, z], tys⟩) (hx : fr.ev x = some (.int .u64 (a.toNat : Int))) (hy : fr.ev y = some (.int .u64 (b.toNat : Int))) (hz : fr.ev z = some (.int .u64 (c.toNat : Int))) (hc : c.toNat ≤ 1) :
  PStep P fr o (.tuple #[.int .u64 ((a + b + c).toNat : Int), .int .u64 ((cy a b c).toNat : Int)]) := by
 intro A hA w
 have h1 := he #[.int .u64 (a.toNat : Int), .int .u64 (b.toNat : Int), .int .u64 (c.toNat : Int)] w
 rw [run_add64 (a.toNat : Int) (b.toNat : Int) (c.toNat : Int) (by omega) (by omega) (by omega) (by omega)] at h1
 have e1 : ((a.toNat : Int) + (b.toNat : Int) + (c.toNat : Int)) % 18446744073709551616 = ((a + b + c).toNat : Int) := by
  rw [BitVec.toNat_add, BitVec.toNat_add]
  omega
 have e2 : ((a.toNat : Int) + (b.toNat : Int) + (c.toNat : Int)) / 18446744073709551616 = ((cy a b c).toNat : Int) := by
  rw [cy_nat hc]
  omega
 rw [e1, e2, Result.andThen_ok] at h1
 unfold execOp
 have hf : A.eval (.func f) = .func (.func f) #[] #[] := rfl
 simp [ho, resolve, hf, hA.ev hx, hA.ev hy, hA.ev hz, Deferred.ofValue, invoke, h1, -BitVec.toNat_add]
end
end SE
end Go


/- All orders of a region that draws, by what is done so far. Generic (no program). -/
namespace Go
namespace SE
open Go.RowKit
set_option linter.unusedVariables false
set_option linter.unusedSimpArgs false
section
variable {P : Program} {E : Env} {fr : Fr} {H : Hp} {l : List Oper} {Q : Exit → Act → World → Prop}
variable {v : Value} {i : Nat}
end
end SE
end Go


/- All orders of a region that draws, by what is done so far; what only reads, or calls and leaves nothing, goes first. Generic (no program). -/
namespace Go
namespace SE
open Go.RowKit
set_option linter.unusedVariables false
set_option linter.unusedSimpArgs false
section
variable {P : Program} {E : Env} {fr : Fr} {H : Hp} {l : List Oper} {Q : Exit → Act → World → Prop} {v : Value} {i : Nat} {anyL : List Nat}
def EB (P : Program) (l : List Oper) (Q : Exit → Act → World → Prop) (anyL : List Nat) (f : Nat) (listed : Array Bool) : Act → World → Prop := fun a w =>
 HeadInv .any l.toArray l.toArray.size listed → RG.wpAnyE P .any l.toArray Q RG.Ext (fun j => anyL.contains j) l.toArray.size
  (fun listed a w => Region.ready .any l.toArray listed = [] ∧ ∀ w2, RG.Ext w w2 → Q .normal a w2) f listed a w
theorem At.into {T : Act → World → Prop} {l : List (Nat × Value)} {m : List (Nat × Row)} (h : At E (frOf l) (hOf m) T) (hf : l.map (fun p => fr p.1) = l.map (fun p => some p.2)) (hH : m.map (fun p => H p.1) = m.map (fun p => some p.2)) : At E fr H T :=
 h.weak (frOf_le fun p hp => List.map_inj_left.1 hf p hp) (hOf_le fun p hp => List.map_inj_left.1 hH p hp)
theorem At.bBruteG {id : Nat} (anyL : List Nat) (J : Fr → Hp → Prop) (hm : P.follows .mixedOrders = true)
  (h : ∀ K : Act → World → Prop, (∀ fr' H', J fr' H' → At E fr' H' K) → ∀ G : Nat → Array Bool → Fr → Hp → Prop, (∀ {f ls fr H}, G f ls fr H → At E fr H (EB P l (Exit.then K Q) anyL f ls)) → (∀ {f ls fr H}, At E fr H (EB P l (Exit.then K Q) anyL f ls) → G f ls fr H) → G l.length (Array.replicate l.toArray.size false) fr H)
  (h2 : ∀ fr' H', J fr' H' → At E fr' H' (Q .normal)) : At E fr H ((Code.region id l.toArray true).wp P Q) := by
 intro a w R
 have e : Exit.then (Q .normal) Q = Q := by
  funext e a w
  cases e <;> rfl
 have := h (Q .normal) h2 (fun f ls fr H => At E fr H (EB P l (Exit.then (Q .normal) Q) anyL f ls)) (fun h => h) (fun h => h) a w.drew R.drew
 rw [e] at this
 refine wp_region_any hm ?_
 have h3 := RG.wpAny_of_E (g := 0) (fun a => RG.Ext.refl a) (fun listed a w hL => ⟨hL.1, hL.2 w (RG.Ext.refl w)⟩) _ _ _ _ (this RG.inv0)
 simpa using h3
theorem At.bEnd {listed : Array Bool} (hr : Region.ready .any l.toArray listed = []) (h : At E fr H (Q .normal)) : At E fr H (EB P l Q anyL 0 listed) :=
 fun a w R _ => ⟨hr, fun w2 h2 => h a w2 (R.below h2)⟩
/-- One act's step. -/
def StepB (P : Program) (E : Env) (l : List Oper) (Q : Exit → Act → World → Prop) (anyL : List Nat) (fr : Fr) (H : Hp) (i : Nat) (K : Act → World → Prop) : Prop :=
 ∀ a w, Rep E fr H a w → wpOp P l.toArray (RG.QX Q) i (fun a' w'' => (anyL.contains i = false → RG.Ext w w'') ∧ K a' w'') a w
theorem At.bStep {fuel : Nat} {listed : Array Bool} (rs : List Nat) (hr : Region.ready .any l.toArray listed = rs) (hne : rs ≠ []) (h : AllL (fun i => StepB P E l Q anyL fr H i (EB P l Q anyL fuel (listed.setIfInBounds i true))) rs) :
  At E fr H (EB P l Q anyL (fuel + 1) listed) := by
 intro a w R inv
 refine ⟨fun h0 => absurd (hr.symm.trans h0) hne, fun w' hw' i hi => ?_⟩
 have hin : i < l.toArray.size := by
  obtain ⟨_, o, ho, _⟩ := mem_ready.1 hi
  exact (Array.getElem?_eq_some_iff.1 ho).1
 exact ⟨hin, wpOp_mono (fun a' w'' h3 => ⟨h3.1, h3.2 (inv.set hi hin)⟩) (h.mem i (by rw [← hr]; exact hi) a w' (R.below hw'))⟩
theorem At.bS {K : Act → World → Prop} (any : Bool) (hb : anyL.contains i = any) (h : SStep P E any fr H (l.getD i default) (fun fr' H' => At E fr' H' K)) (hi : i < l.length := by decide) (hg : (l.getD i default).guard = none := by rfl) : StepB P E l Q anyL fr H i K := by
 intro a w R
 unfold wpOp
 rw [at_op hi]
 simp only [Region.wanted, hg, if_true]
 exact Or.inl (RG.wp_monoQ (fun a' w'' ⟨h0, fr', H', h2, h3⟩ => ⟨fun hc => h0 (hb.symm.trans hc), h2 _ _ h3⟩) (fun _ _ _ h => h.elim) (fun ⟨_, _, h⟩ => h.elim) (h a w R))
/-- What reads, in any order. -/
theorem At.bSQ {K : Act → World → Prop} (d : Option Tmp) (h : QStep P E fr H (l.getD i default) v) (h' : At E (fr.put E.n d v) H K) (hi : i < l.length := by decide) (hg : (l.getD i default).guard = none := by rfl) (hd : (l.getD i default).dst = d := by rfl) : StepB P E l Q anyL fr H i K := by
 intro a w R
 unfold wpOp
 rw [at_op hi]
 simp only [Region.wanted, hg, if_true]
 refine Or.inl ?_
 unfold Oper.wp
 rw [h a w R]
 subst hd
 exact ⟨fun _ => RG.Ext.refl w, h' _ _ (R.put _ v)⟩
/-- Something quiet may go first. -/
theorem bFirst {fuel : Nat} {listed : Array Bool} (s : Bool) (i : Nat) (hsel : Region.noSelect l.toArray = true) (hB : RG.lexQ .any l.toArray l.toArray.size anyL s [i] listed = true)
  (hy : ∀ a w, Rep E fr H a w → ∀ w', (s = true ∨ RG.Ext w w') → wpQuiet P l.toArray (RG.ClX w') (fun a' => a' = a.put (l.getD i default).dst v) [l.getD i default] a)
  (h' : At E (fr.put E.n (l.getD i default).dst v) H (EB P l Q anyL fuel (listed.setIfInBounds i true))) : At E fr H (EB P l Q anyL (fuel + 1) listed) := by
 intro a w R inv
 have hwt : RG.waitB .any l.toArray l.toArray.size = true := by simp [RG.waitB]
 obtain ⟨hn, hw⟩ := RG.waitB_spec hwt
 exact RG.batch (s := s) (anyL := anyL) (n := l.toArray.size) (A := a.put (l.getD i default).dst v) (R := RG.Ext) (Cl := RG.ClX) (f := fuel) hsel hw hn (fun _ _ _ h k => RG.Ext.trans h k) (fun a b h => h) (fun w => RG.ClX.mk (RG.Ext.refl w)) (fun w x h => h.ext)
  (fun listed a w w' hL hr => ⟨hL.1, fun w2 h2 => hL.2 w2 (RG.Ext.trans hr h2)⟩) (fun listed a w hL j hj => by rw [hL.1] at hj; cases hj) [i] listed a inv hB (hy a w R) (fun inv' => h' _ w (R.put _ v) inv')
theorem wantedN {ops : Array Oper} {o : Oper} {t : Array Value} (hg : o.guard = none) : Region.wanted o (yielded ops t) = true := by unfold Region.wanted; rw [hg]
theorem At.bP {fuel : Nat} {listed : Array Bool} (i : Nat) (d : Option Tmp) (h : PStep P fr (l.getD i default) v) (hsel : Region.noSelect l.toArray = true) (hB : RG.lexQ .any l.toArray l.toArray.size anyL true [i] listed = true)
  (h' : At E (fr.put E.n d v) H (EB P l Q anyL fuel (listed.setIfInBounds i true))) (hg : (l.getD i default).guard = none := by rfl) (hd : (l.getD i default).dst = d := by rfl) : At E fr H (EB P l Q anyL (fuel + 1) listed) := by
 subst hd
 refine bFirst true i hsel hB (fun a w R w' _ => ?_) h'
 unfold wpQuiet
 rw [if_pos (wantedN hg)]
 exact ⟨v, fun w2 hw2 => by unfold Oper.quietAt; rw [h a R.fr w2]; exact ⟨rfl, rfl⟩, rfl⟩
theorem At.bQ {fuel : Nat} {listed : Array Bool} (i : Nat) (d : Option Tmp) (h : QStep P E fr H (l.getD i default) v) (hsel : Region.noSelect l.toArray = true) (hB : RG.lexQ .any l.toArray l.toArray.size anyL false [i] listed = true)
  (h' : At E (fr.put E.n d v) H (EB P l Q anyL fuel (listed.setIfInBounds i true))) (hg : (l.getD i default).guard = none := by rfl) (hd : (l.getD i default).dst = d := by rfl) : At E fr H (EB P l Q anyL (fuel + 1) listed) := by
 subst hd
 refine bFirst false i hsel hB (fun a w R w' hw' => ?_) h'
 have hw' : RG.Ext w w' := by simpa using hw'
 unfold wpQuiet
 rw [if_pos (wantedN hg)]
 exact ⟨v, fun w2 hw2 => by unfold Oper.quietAt; rw [h a w2 (R.below (RG.Ext.trans hw' hw2.ext))]; exact ⟨rfl, rfl⟩, rfl⟩
end
end SE
end Go


/- A region that draws its order, whatever the order: what each operation makes, each told once. Generic (no program). -/
namespace Go
namespace SE
open Go.RowKit
set_option linter.unusedVariables false
set_option linter.unusedSimpArgs false
/-- What an operation makes: a value; a new row; a row's cells. -/
inductive OK where
 | q (v : Value)
 | al (lab : Nat) (ty : TypeId) (cs : List Value)
 | st (lab : Nat) (b0 : Option Nat) (ty : TypeId) (cs : List Value) (rest : Nat)
instance : Inhabited OK := ⟨.q undef⟩
def bOf (A : Nat → Nat) (lab : Nat) : Option Nat → Nat
 | some b => b
 | none => A lab
def OK.val (A : Nat → Nat) : OK → Option Value
 | .q v => some v
 | .al lab _ _ => some (.pointer (some ⟨A lab, 0, none⟩))
 | .st _ _ _ _ _ => none
def OK.isAl (k : Nat) : OK → Bool
 | .al lab _ _ => Nat.beq lab k
 | _ => false
def OK.isSt (k : Nat) : OK → Bool
 | .st lab _ _ _ _ => Nat.beq lab k
 | _ => false
def onsB (o : Oper) : List Nat := (o.after.toList.filter (Region.binds .any)).map (·.on)
def ancB (l : List Oper) : Nat → Nat → Nat → Bool
 | 0, _, _ => false
 | f + 1, j, i => (onsB (l.getD j default)).any fun e => Nat.beq e i || ancB l f e i
def isDst (o : Oper) (s : Nat) : Bool := match o.dst with
 | some d => Nat.beq d s
 | none => false
def dstB (l : List Oper) (s : Nat) : Bool := l.any fun o => isDst o s
def dstFree (l : List Oper) (j : Nat) : Bool := match (l.getD j default).dst with
 | none => true
 | some d => (List.range l.length).all fun j' => Nat.beq j' j || !isDst (l.getD j' default) d
def kindFree (l : List Oper) (ks : List OK) (j : Nat) : Bool := match ks.getD j default with
 | .q _ => true
 | .al lab _ _ => (List.range l.length).all fun j' => (Nat.beq j' j || !(ks.getD j' default).isAl lab) && (!(ks.getD j' default).isSt lab || (match ks.getD j' default with
  | .st _ none _ _ _ => ancB l l.length j' j
  | _ => false))
 | .st lab b0 _ _ _ => (l.getD j default).dst.isNone && (List.range l.length).all fun j' => Nat.beq j' j || !(ks.getD j' default).isSt lab
def okO (l : List Oper) (ks : List OK) : Bool :=
 Nat.beq ks.length l.length && (List.range l.length).all fun j => (onsB (l.getD j default)).all (fun e => Nat.blt e j) && dstFree l j && kindFree l ks j
/-- Who asks for the row comes first. -/
def touchB (l : List Oper) (ks : List OK) (i k : Nat) : Bool := (List.range l.length).all fun j => Nat.beq j i || !((ks.getD j default).isAl k || (ks.getD j default).isSt k) || ancB l l.length j i
structure OInv (l : List Oper) (ks : List OK) (fr : Fr) (H : Hp) (L : Array Bool) (A : Nat → Nat) (fr' : Fr) (H' : Hp) : Prop where
 init : ∀ s v, fr s = some v → dstB l s = false → fr' s = some v
 done : ∀ j d v, j < l.length → L.getD j false = true → (l.getD j default).dst = some d → (ks.getD j default).val A = some v → fr' d = some v
 row0 : ∀ k r, H k = some r → (∀ j, j < l.length → (ks.getD j default).isAl k = true ∨ (ks.getD j default).isSt k = true → L.getD j false = false) → H' k = some r
 rowA : ∀ j lab ty cs, j < l.length → ks.getD j default = .al lab ty cs → L.getD j false = true → (∀ j', j' < l.length → (ks.getD j' default).isSt lab = true → L.getD j' false = false) → H' lab = some ⟨true, A lab, 0, ty, cs, 0⟩
 rowS : ∀ j lab b0 ty cs rest, j < l.length → ks.getD j default = .st lab b0 ty cs rest → L.getD j false = true → H' lab = some ⟨true, bOf A lab b0, 0, ty, cs, rest⟩
structure ORdy (l : List Oper) (L : Array Bool) (i : Nat) : Prop where
 closed : ∀ j, j < l.length → L.getD j false = true → ∀ e ∈ onsB (l.getD j default), L.getD e false = true ∧ e < l.length
 lt : i < l.length
 un : L.getD i false = false
 ons : ∀ e ∈ onsB (l.getD i default), L.getD e false = true ∧ e < l.length

theorem anc_listed {l : List Oper} {L : Array Bool} (hc : ∀ j, j < l.length → L.getD j false = true → ∀ e ∈ onsB (l.getD j default), L.getD e false = true ∧ e < l.length) :
  ∀ (f j i : Nat), (∀ e ∈ onsB (l.getD j default), L.getD e false = true ∧ e < l.length) → ancB l f j i = true → L.getD i false = true
 | 0, j, i, _, h => by simp [ancB] at h
 | f + 1, j, i, ho, h => by
  unfold ancB at h
  obtain ⟨e, he, h⟩ := List.any_eq_true.1 h
  rcases Bool.or_eq_true_iff.1 h with h | h
  · rw [← Nat.eq_of_beq_eq_true h]; exact (ho e he).1
  · exact anc_listed hc f e i (hc e (ho e he).2 (ho e he).1) h

section
variable {l : List Oper} {ks : List OK} {fr fr' : Fr} {H H' : Hp} {L : Array Bool} {A : Nat → Nat} {i : Nat}
theorem ORdy.anc (R : ORdy l L i) {j : Nat} (h : ancB l l.length i j = true) : L.getD j false = true := anc_listed R.closed _ _ _ R.ons h
theorem ORdy.not (R : ORdy l L i) {j : Nat} (hj : j < l.length) (h : (Nat.beq j i || ancB l l.length j i) = true) : L.getD j false = false := by
 rcases Bool.or_eq_true_iff.1 h with h | h
 · rw [Nat.eq_of_beq_eq_true h]; exact R.un
 ·
  cases hL : L.getD j false with
  | false => rfl
  | true =>
   have h1 := anc_listed R.closed _ _ _ (R.closed j hj hL) h
   rw [R.un] at h1; cases h1
theorem OInv.slotD (I : OInv l ks fr H L A fr' H') (R : ORdy l L i) (j : Nat) {d : Nat} {v : Value} (hj : (Nat.blt j l.length && ancB l l.length i j) = true) (hd : (l.getD j default).dst = some d) (hv : (ks.getD j default).val A = some v) : fr' d = some v := by
 rw [Bool.and_eq_true] at hj
 exact I.done j d v (by simpa using hj.1) (R.anc hj.2) hd hv
theorem OInv.get0 (I : OInv l ks fr H L A fr' H') (R : ORdy l L i) {k : Nat} {r : Row} (h : H k = some r) (ht : touchB l ks i k = true) : H' k = some r := by
 refine I.row0 k r h fun j hj hk => R.not hj ?_
 have h1 := List.all_eq_true.1 ht j (List.mem_range.2 hj)
 rcases hk with hk | hk <;> rw [hk] at h1 <;> simpa using h1
end

/-- A step that yields a value and leaves what was there. -/
def OStep (P : Program) (E : Env) (fr : Fr) (H : Hp) (o : Oper) (v : Value) : Prop := ∀ a w, Rep E fr H a w → o.wp P a w (fun a' w' => a' = a.put o.dst v ∧ RG.Ext w w') (fun _ _ _ => False)
theorem QStep.o {P : Program} {E : Env} {fr : Fr} {H : Hp} {o : Oper} {v : Value} (h : QStep P E fr H o v) : OStep P E fr H o v := fun a w R => by
 unfold Oper.wp
 rw [h a w R]
 exact ⟨rfl, RG.Ext.refl w⟩
theorem PStep.o {P : Program} {E : Env} {fr : Fr} {H : Hp} {o : Oper} {v : Value} (h : PStep P fr o v) : OStep P E fr H o v := h.q.o
theorem OStep.weak {P : Program} {E : Env} {fr : Fr} {H : Hp} {o : Oper} {v : Value} {sl : List (Nat × Value)} {rw_ : List (Nat × Row)} (hs : AllL (fun p => fr p.1 = some p.2) sl) (hr : AllL (fun p => H p.1 = some p.2) rw_) (h : OStep P E (frOf sl) (hOf rw_) o v) : OStep P E fr H o v :=
 At.weak (T := fun a w => o.wp P a w (fun a' w' => a' = a.put o.dst v ∧ RG.Ext w w') (fun _ _ _ => False)) (frOf_le hs.mem) (hOf_le hr.mem) h
/-- What is owed of an operation. -/
def OGoal (P : Program) (E : Env) (fr : Fr) (H : Hp) (A : Nat → Nat) (o : Oper) : OK → Prop
 | .q v => OStep P E fr H o v
 | .al _ ty cs => ∃ z, o.op = .alloc ty ∧ tze P ty = some z ∧ z.cells.toList = cs
 | .st lab b0 ty cs rest => SStep P E true fr H o fun fr' H' => fr' = fr ∧ H' = H.set lab ⟨true, bOf A lab b0, 0, ty, cs, rest⟩

theorem OGoal.q {P : Program} {E : Env} {fr : Fr} {H : Hp} {A : Nat → Nat} {o : Oper} {k : OK} {v : Value} (hk : k = .q v) (h : OStep P E fr H o v) : OGoal P E fr H A o k := by subst hk; exact h
theorem OGoal.al {P : Program} {E : Env} {fr : Fr} {H : Hp} {A : Nat → Nat} {o : Oper} {k : OK} {lab : Nat} {ty : TypeId} {cs : List Value} {z : Value} (hk : k = .al lab ty cs) (ho : o.op = .alloc ty) (hz : tze P ty = some z) (hc : z.cells.toList = cs) : OGoal P E fr H A o k := by subst hk; exact ⟨z, ho, hz, hc⟩
theorem OGoal.st {P : Program} {E : Env} {fr : Fr} {H : Hp} {A : Nat → Nat} {o : Oper} {k : OK} {lab : Nat} {b0 : Option Nat} {ty : TypeId} {cs : List Value} {rest : Nat} (hk : k = .st lab b0 ty cs rest) (h : SStep P E true fr H o fun fr' H' => fr' = fr ∧ H' = H.set lab ⟨true, bOf A lab b0, 0, ty, cs, rest⟩) : OGoal P E fr H A o k := by subst hk; exact h

/-- The frame and the rows when all is done. -/
def ovr (A : Nat → Nat) : List Oper → List OK → Fr → Fr
 | o :: l, k :: ks, fr => match o.dst with
  | some d => fun s => match Nat.beq s d with
   | true => k.val A
   | false => ovr A l ks fr s
  | none => ovr A l ks fr
 | _, _, fr => fr
def stR (A : Nat → Nat) (k : Nat) : List OK → Option Row
 | [] => none
 | .st lab b0 ty cs rest :: ks => match Nat.beq lab k with
  | true => some ⟨true, bOf A lab b0, 0, ty, cs, rest⟩
  | false => stR A k ks
 | _ :: ks => stR A k ks
def alR (A : Nat → Nat) (k : Nat) : List OK → Option Row
 | [] => none
 | .al lab ty cs :: ks => match Nat.beq lab k with
  | true => some ⟨true, A lab, 0, ty, cs, 0⟩
  | false => alR A k ks
 | _ :: ks => alR A k ks
def hovr (A : Nat → Nat) (ks : List OK) (H : Hp) : Hp := fun k => match stR A k ks with
 | some r => some r
 | none => match alR A k ks with
  | some r => some r
  | none => H k

theorem ovr_some {A : Nat → Nat} {fr : Fr} {s : Nat} {v : Value} : ∀ {l : List Oper} {ks : List OK}, ks.length = l.length → ovr A l ks fr s = some v →
  (∃ j, j < l.length ∧ (l.getD j default).dst = some s ∧ (ks.getD j default).val A = some v) ∨ (fr s = some v ∧ dstB l s = false)
 | [], [], _, h => .inr ⟨h, rfl⟩
 | [], _ :: _, hl, _ => by simp at hl
 | _ :: _, [], hl, _ => by simp at hl
 | o :: l, k :: ks, hl, h => by
  have hl' : ks.length = l.length := by simpa using hl
  have up : ∀ {v : Value}, (isDst o s = false) → ovr A l ks fr s = some v → (∃ j, j < (o :: l).length ∧ ((o :: l).getD j default).dst = some s ∧ ((k :: ks).getD j default).val A = some v) ∨ (fr s = some v ∧ dstB (o :: l) s = false) := fun hd hv => by
   rcases ovr_some hl' hv with ⟨j, h1, h2, h3⟩ | ⟨h1, h2⟩
   · exact .inl ⟨j + 1, by simpa using h1, by simpa using h2, by simpa using h3⟩
   · exact .inr ⟨h1, by unfold dstB at *; simp [hd]; simpa using h2⟩
  cases hd : o.dst with
  | some d =>
   simp only [ovr, hd] at h
   split at h
   ·
    rename_i hb
    have hb : s = d := Nat.eq_of_beq_eq_true hb
    subst hb
    exact .inl ⟨0, by simp, by simpa using hd, by simpa using h⟩
   ·
    rename_i hb
    refine up ?_ h
    unfold isDst
    rw [hd]
    exact bnf (fun e => bne hb e.symm)
  | none =>
   simp only [ovr, hd] at h
   refine up ?_ h
   unfold isDst
   rw [hd]
theorem stR_some {A : Nat → Nat} {k : Nat} {r : Row} : ∀ {ks : List OK}, stR A k ks = some r → ∃ j b0 ty cs rest, j < ks.length ∧ ks.getD j default = .st k b0 ty cs rest ∧ r = ⟨true, bOf A k b0, 0, ty, cs, rest⟩
 | [], h => by simp [stR] at h
 | .st lab b0 ty cs rest :: ks, h => by
  unfold stR at h
  split at h
  ·
   rename_i hb
   have hb := Nat.eq_of_beq_eq_true hb
   subst hb
   exact ⟨0, b0, ty, cs, rest, by simp, by simp, (Option.some.inj h).symm⟩
  ·
   obtain ⟨j, b1, ty', cs', rest', h1, h2, h3⟩ := stR_some h
   exact ⟨j + 1, b1, ty', cs', rest', by simpa using h1, by simpa using h2, h3⟩
 | .q _ :: ks, h => by
  obtain ⟨j, b1, ty', cs', rest', h1, h2, h3⟩ := stR_some (ks := ks) h
  exact ⟨j + 1, b1, ty', cs', rest', by simpa using h1, by simpa using h2, h3⟩
 | .al _ _ _ :: ks, h => by
  obtain ⟨j, b1, ty', cs', rest', h1, h2, h3⟩ := stR_some (ks := ks) h
  exact ⟨j + 1, b1, ty', cs', rest', by simpa using h1, by simpa using h2, h3⟩
theorem stR_none {A : Nat → Nat} {k : Nat} : ∀ {ks : List OK}, stR A k ks = none → ∀ j, (ks.getD j default).isSt k = false
 | [], h, j => by simp [OK.isSt, default]
 | .st lab b0 ty cs rest :: ks, h, j => by
  unfold stR at h
  split at h
  · cases h
  ·
   rename_i hb
   cases j with
   | zero => simpa [OK.isSt] using hb
   | succ j => simpa using stR_none h j
 | .q _ :: ks, h, j => by
  cases j with
  | zero => simp [OK.isSt]
  | succ j => simpa using stR_none (ks := ks) h j
 | .al _ _ _ :: ks, h, j => by
  cases j with
  | zero => simp [OK.isSt]
  | succ j => simpa using stR_none (ks := ks) h j
theorem alR_some {A : Nat → Nat} {k : Nat} {r : Row} : ∀ {ks : List OK}, alR A k ks = some r → ∃ j ty cs, j < ks.length ∧ ks.getD j default = .al k ty cs ∧ r = ⟨true, A k, 0, ty, cs, 0⟩
 | [], h => by simp [alR] at h
 | .al lab ty cs :: ks, h => by
  unfold alR at h
  split at h
  ·
   rename_i hb
   have hb := Nat.eq_of_beq_eq_true hb
   subst hb
   exact ⟨0, ty, cs, by simp, by simp, (Option.some.inj h).symm⟩
  ·
   obtain ⟨j, ty', cs', h1, h2, h3⟩ := alR_some h
   exact ⟨j + 1, ty', cs', by simpa using h1, by simpa using h2, h3⟩
 | .q _ :: ks, h => by
  obtain ⟨j, ty', cs', h1, h2, h3⟩ := alR_some (ks := ks) h
  exact ⟨j + 1, ty', cs', by simpa using h1, by simpa using h2, h3⟩
 | .st _ _ _ _ _ :: ks, h => by
  obtain ⟨j, ty', cs', h1, h2, h3⟩ := alR_some (ks := ks) h
  exact ⟨j + 1, ty', cs', by simpa using h1, by simpa using h2, h3⟩
theorem alR_none {A : Nat → Nat} {k : Nat} : ∀ {ks : List OK}, alR A k ks = none → ∀ j, (ks.getD j default).isAl k = false
 | [], h, j => by simp [OK.isAl, default]
 | .al lab ty cs :: ks, h, j => by
  unfold alR at h
  split at h
  · cases h
  ·
   rename_i hb
   cases j with
   | zero => simpa [OK.isAl] using hb
   | succ j => simpa using alR_none h j
 | .q _ :: ks, h, j => by
  cases j with
  | zero => simp [OK.isAl]
  | succ j => simpa using alR_none (ks := ks) h j
 | .st _ _ _ _ _ :: ks, h, j => by
  cases j with
  | zero => simp [OK.isAl]
  | succ j => simpa using alR_none (ks := ks) h j

theorem cnt_one {f g : Nat → Bool} {i : Nat} (hf : f i = true) (hg : g i = false) (hne : ∀ j, j ≠ i → f j = g j) : ∀ n, i < n → (List.range n).countP f = (List.range n).countP g + 1
 | 0, h => by omega
 | n + 1, h => by
  rw [List.range_succ, List.countP_append, List.countP_append]
  by_cases hi : i = n
  ·
   subst hi
   have : (List.range i).countP f = (List.range i).countP g := List.countP_congr fun j hj => by rw [hne j (by have := List.mem_range.1 hj; omega)]
   simp [this, hf, hg]
  ·
   have h1 := cnt_one hf hg hne n (by omega)
   have h2 := hne n (Ne.symm hi)
   simp only [h1, List.countP_cons, List.countP_nil, h2]
   omega
theorem least {f : Nat → Bool} : ∀ (j : Nat), f j = false → ∃ i, i ≤ j ∧ f i = false ∧ ∀ k, k < i → f k = true := by
 intro j
 induction j using Nat.strongRecOn with
 | _ j ih =>
  intro hj
  by_cases h : ∃ k, k < j ∧ f k = false
  ·
   obtain ⟨k, h1, h2⟩ := h
   obtain ⟨i, h3, h4, h5⟩ := ih k h1 h2
   exact ⟨i, by omega, h4, h5⟩
  ·
   refine ⟨j, Nat.le_refl _, hj, fun k hk => ?_⟩
   cases hf : f k with
   | true => rfl
   | false => exact absurd ⟨k, hk, hf⟩ h

section
variable {l : List Oper} {ks : List OK} {fr fr' : Fr} {H H' : Hp} {L : Array Bool} {A : Nat → Nat} {i : Nat} {n : Nat}
theorem okO_spec (h : okO l ks = true) : ks.length = l.length ∧ ∀ j, j < l.length → (∀ e ∈ onsB (l.getD j default), e < j) ∧ dstFree l j = true ∧ kindFree l ks j = true := by
 unfold okO at h
 rw [Bool.and_eq_true] at h
 refine ⟨Nat.eq_of_beq_eq_true h.1, fun j hj => ?_⟩
 have h1 := List.all_eq_true.1 h.2 j (List.mem_range.2 hj)
 rw [Bool.and_eq_true, Bool.and_eq_true] at h1
 exact ⟨fun e he => by simpa using List.all_eq_true.1 h1.1.1 e he, h1.1.2, h1.2⟩
theorem dstFree_ne {d : Nat} (h : dstFree l i = true) (hi : (l.getD i default).dst = some d) {j : Nat} (hj : j < l.length) (hne : j ≠ i) : (l.getD j default).dst ≠ some d := by
 unfold dstFree at h
 rw [hi] at h
 have h1 := List.all_eq_true.1 h j (List.mem_range.2 hj)
 rw [bnf hne, Bool.false_or] at h1
 intro he
 unfold isDst at h1
 rw [he] at h1
 simp at h1
theorem put_same {d : Nat} {v : Value} (hd : d < n) : Fr.put n fr (some d) v d = some v := by
 have : Nat.blt d n = true := by simpa using hd
 simp [Fr.put, this]
theorem put_ne {d s : Nat} {v : Value} (hd : s ≠ d) : Fr.put n fr (some d) v s = fr s := by simp [Fr.put, bnf hd]
theorem set_back {j : Nat} (h : (L.setIfInBounds i true).getD j false = false) : L.getD j false = false := by
 cases hL : L.getD j false with
 | false => rfl
 | true => rw [getD_set_true hL] at h; cases h
theorem set_ne {j : Nat} (hne : j ≠ i) (h : (L.setIfInBounds i true).getD j false = true) : L.getD j false = true := by rwa [getD_set_ne false (Ne.symm hne)] at h
theorem set_at (hi : i < L.size) : (L.setIfInBounds i true).getD i false = true := by simp [hi]

/-- The frame's part of a step. -/
theorem OInv.fr_step (I : OInv l ks fr H L A fr' H') {A' : Nat → Nat} (hi : i < l.length) (hdf : dstFree l i = true) (v : Value) (hv : (l.getD i default).dst.isSome = true → (ks.getD i default).val A' = some v) (hlt : ∀ d, (l.getD i default).dst = some d → d < n)
  (hA : ∀ j, j < l.length → j ≠ i → (ks.getD j default).val A' = (ks.getD j default).val A) :
  (∀ s v', fr s = some v' → dstB l s = false → fr'.put n (l.getD i default).dst v s = some v') ∧
  (∀ j d v', j < l.length → (L.setIfInBounds i true).getD j false = true → (l.getD j default).dst = some d → (ks.getD j default).val A' = some v' → fr'.put n (l.getD i default).dst v d = some v') := by
 cases hd : (l.getD i default).dst with
 | none =>
  refine ⟨fun s v' h1 h2 => I.init s v' h1 h2, fun j d v' hj hL hjd hjv => ?_⟩
  have hne : j ≠ i := fun e => by subst e; rw [hd] at hjd; cases hjd
  exact I.done j d v' hj (set_ne hne hL) hjd (by rw [← hA j hj hne]; exact hjv)
 | some d =>
  refine ⟨fun s v' h1 h2 => ?_, fun j d' v' hj hL hjd hjv => ?_⟩
  ·
   rw [put_ne]
   · exact I.init s v' h1 h2
   ·
    rintro rfl
    have h3 : dstB l s = true := by
     unfold dstB
     refine List.any_eq_true.2 ⟨l.getD i default, ?_, ?_⟩
     · simp [hi]
     · unfold isDst; rw [hd]; simp
    rw [h2] at h3; cases h3
  ·
   by_cases hne : j = i
   ·
    subst hne
    rw [hd] at hjd
    cases hjd
    have h4 := hv (by rw [hd]; rfl)
    rw [hjv] at h4
    rw [put_same (hlt _ hd)]
    exact h4.symm
   ·
    rw [put_ne]
    · exact I.done j d' v' hj (set_ne hne hL) hjd (by rw [← hA j hj hne]; exact hjv)
    ·
     rintro rfl
     exact dstFree_ne hdf hd hj hne hjd
theorem OInv.q (I : OInv l ks fr H L A fr' H') (hi : i < l.length) (hdf : dstFree l i = true) {v : Value} (hk : ks.getD i default = .q v) (hlt : ∀ d, (l.getD i default).dst = some d → d < n) :
  OInv l ks fr H (L.setIfInBounds i true) A (fr'.put n (l.getD i default).dst v) H' := by
 obtain ⟨h1, h2⟩ := I.fr_step (A' := A) hi hdf v (fun _ => by rw [hk]; rfl) hlt (fun _ _ _ => rfl)
 refine ⟨h1, h2, fun k r hr hj => I.row0 k r hr fun j hj' ht => set_back (hj j hj' ht), fun j lab ty cs hj hkj hL hn => ?_, fun j lab b0 ty cs rest hj hkj hL => ?_⟩
 ·
  have hne : j ≠ i := fun e => by subst e; rw [hk] at hkj; cases hkj
  exact I.rowA j lab ty cs hj hkj (set_ne hne hL) fun j' hj' hs => set_back (hn j' hj' hs)
 ·
  have hne : j ≠ i := fun e => by subst e; rw [hk] at hkj; cases hkj
  exact I.rowS j lab b0 ty cs rest hj hkj (set_ne hne hL)
theorem OInv.al (I : OInv l ks fr H L A fr' H') (R : ORdy l L i) (hs : i < L.size) (hdf : dstFree l i = true) (hkf : kindFree l ks i = true) {lab : Nat} {ty : TypeId} {cs : List Value} (hk : ks.getD i default = .al lab ty cs) (hlt : ∀ d, (l.getD i default).dst = some d → d < n) (b : Nat) :
  OInv l ks fr H (L.setIfInBounds i true) (fun k => if k = lab then b else A k) (fr'.put n (l.getD i default).dst (.pointer (some ⟨b, 0, none⟩))) (H'.set lab ⟨true, b, 0, ty, cs, 0⟩) := by
 have hi := R.lt
 unfold kindFree at hkf
 rw [hk] at hkf
 have hkf' : ∀ j, j < l.length → (j = i ∨ (ks.getD j default).isAl lab = false) ∧ ((ks.getD j default).isSt lab = true → L.getD j false = false) := fun j hj => by
  have h1 := List.all_eq_true.1 hkf j (List.mem_range.2 hj)
  rw [Bool.and_eq_true] at h1
  refine ⟨?_, fun hst => ?_⟩
  ·
   rcases Bool.or_eq_true_iff.1 h1.1 with h2 | h2
   · exact .inl (Nat.eq_of_beq_eq_true h2)
   · exact .inr (by simpa using h2)
  ·
   rw [hst, Bool.not_true, Bool.false_or] at h1
   refine R.not hj ?_
   rw [Bool.or_eq_true]
   refine Or.inr ?_
   have h3 := h1.2
   split at h3
   · exact h3
   · cases h3
 have hA : ∀ j, j < l.length → j ≠ i → (ks.getD j default).val (fun k => if k = lab then b else A k) = (ks.getD j default).val A := fun j hj hne => by
  rcases (hkf' j hj).1 with h1 | h1
  · exact absurd h1 hne
  ·
   cases hkj : ks.getD j default with
   | q v => rfl
   | al lab' ty' cs' =>
    rw [hkj] at h1
    have : lab' ≠ lab := bne h1
    simp [OK.val, this]
   | st => rfl
 obtain ⟨h1, h2⟩ := I.fr_step (A' := fun k => if k = lab then b else A k) hi hdf (.pointer (some ⟨b, 0, none⟩)) (fun _ => by rw [hk]; simp [OK.val]) hlt hA
 have hthis : (L.setIfInBounds i true).getD i false = true := set_at hs
 refine ⟨h1, h2, fun k r hr hj => ?_, fun j lab' ty' cs' hj hkj hL hn => ?_, fun j lab' b0 ty' cs' rest hj hkj hL => ?_⟩
 ·
  have hne : k ≠ lab := by
   rintro rfl
   have := hj i hi (.inl (by rw [hk]; simp [OK.isAl]))
   rw [hthis] at this; cases this
  rw [Hp.set_ne _ _ hne]
  exact I.row0 k r hr fun j hj' ht => set_back (hj j hj' ht)
 ·
  by_cases hne : j = i
  ·
   subst hne
   rw [hk] at hkj
   cases hkj
   simp [Hp.set_same]
  ·
   have hl : lab' ≠ lab := by
    rcases (hkf' j hj).1 with h3 | h3
    · exact absurd h3 hne
    · rw [hkj] at h3; exact bne h3
   rw [Hp.set_ne _ _ hl]
   simp only [hl, if_false]
   exact I.rowA j lab' ty' cs' hj hkj (set_ne hne hL) fun j' hj' hs' => set_back (hn j' hj' hs')
 ·
  have hne : j ≠ i := fun e => by subst e; rw [hk] at hkj; cases hkj
  have hLj := set_ne hne hL
  have hl : lab' ≠ lab := by
   rintro rfl
   have := (hkf' j hj).2 (by rw [hkj]; simp [OK.isSt])
   rw [hLj] at this; cases this
  rw [Hp.set_ne _ _ hl]
  have := I.rowS j lab' b0 ty' cs' rest hj hkj hLj
  cases b0 with
  | some b1 => exact this
  | none => simpa [bOf, hl] using this
theorem OInv.st (I : OInv l ks fr H L A fr' H') (hi : i < l.length) (hs : i < L.size) (hkf : kindFree l ks i = true) {lab : Nat} {b0 : Option Nat} {ty : TypeId} {cs : List Value} {rest : Nat} (hk : ks.getD i default = .st lab b0 ty cs rest) :
  OInv l ks fr H (L.setIfInBounds i true) A fr' (H'.set lab ⟨true, bOf A lab b0, 0, ty, cs, rest⟩) := by
 unfold kindFree at hkf
 rw [hk] at hkf
 rw [Bool.and_eq_true] at hkf
 have hdn : (l.getD i default).dst = none := by
  cases hd : (l.getD i default).dst with
  | none => rfl
  | some d => rw [hd] at hkf; simp at hkf
 have hkf' : ∀ j, j < l.length → j ≠ i → (ks.getD j default).isSt lab = false := fun j hj hne => by
  have h1 := List.all_eq_true.1 hkf.2 j (List.mem_range.2 hj)
  rw [bnf hne, Bool.false_or] at h1
  simpa using h1
 have hthis : (L.setIfInBounds i true).getD i false = true := set_at hs
 refine ⟨I.init, fun j d v hj hL hjd hjv => ?_, fun k r hr hj => ?_, fun j lab' ty' cs' hj hkj hL hn => ?_, fun j lab' b0' ty' cs' rest' hj hkj hL => ?_⟩
 ·
  have hne : j ≠ i := fun e => by subst e; rw [hdn] at hjd; cases hjd
  exact I.done j d v hj (set_ne hne hL) hjd hjv
 ·
  have hne : k ≠ lab := by
   rintro rfl
   have := hj i hi (.inr (by rw [hk]; simp [OK.isSt]))
   rw [hthis] at this; cases this
  rw [Hp.set_ne _ _ hne]
  exact I.row0 k r hr fun j hj' ht => set_back (hj j hj' ht)
 ·
  have hne : j ≠ i := fun e => by subst e; rw [hk] at hkj; cases hkj
  have hl : lab' ≠ lab := by
   rintro rfl
   have := hn i hi (by rw [hk]; simp [OK.isSt])
   rw [hthis] at this; cases this
  rw [Hp.set_ne _ _ hl]
  exact I.rowA j lab' ty' cs' hj hkj (set_ne hne hL) fun j' hj' hs' => set_back (hn j' hj' hs')
 ·
  by_cases hne : j = i
  ·
   subst hne
   rw [hk] at hkj
   cases hkj
   simp [Hp.set_same]
  ·
   have hl : lab' ≠ lab := by
    have h3 := hkf' j hj hne
    rw [hkj] at h3; exact bne h3
   rw [Hp.set_ne _ _ hl]
   exact I.rowS j lab' b0' ty' cs' rest' hj hkj (set_ne hne hL)
end

section
variable {P : Program} {E : Env} {l : List Oper} {ks : List OK} {fr : Fr} {H : Hp} {Q : Exit → Act → World → Prop}
def dstLt (l : List Oper) (n : Nat) : Bool := l.all fun o => match o.dst with
 | some d => Nat.blt d n
 | none => true
theorem ord_go (hB : okO l ks = true) (hn : dstLt l E.n = true) (hg : (l.all fun o => o.guard.isNone) = true)
  (hs : ∀ i, i < l.length → ∀ L A fr' H', OInv l ks fr H L A fr' H' → ORdy l L i → OGoal P E fr' H' A (l.getD i default) (ks.getD i default))
  (h : ∀ A L fr' H', OInv l ks fr H L A fr' H' → (∀ j, j < l.length → L.getD j false = true) → At E fr' H' (Q .normal)) :
  ∀ (f : Nat) (L : Array Bool) A fr' H' a w, L.size = l.length → (∀ j, j < l.length → L.getD j false = true → ∀ e ∈ onsB (l.getD j default), L.getD e false = true) → (List.range l.length).countP (fun j => !L.getD j false) = f →
   OInv l ks fr H L A fr' H' → Rep E fr' H' a w → wpAny P .any l.toArray Q f L a w := by
 obtain ⟨hlen, hj⟩ := okO_spec hB
 have rdy : ∀ {L : Array Bool} {i : Nat}, L.size = l.length → i < l.length → L.getD i false = false → (∀ e ∈ onsB (l.getD i default), L.getD e false = true) → i ∈ Region.ready .any l.toArray L := fun {L i} hsz hi hL hons => by
  refine mem_ready.2 ⟨getD_in (by omega) hL, _, at_op hi, fun e he hb => hons e.on ?_⟩
  unfold onsB
  exact List.mem_map.2 ⟨e, List.mem_filter.2 ⟨by simpa using he, hb⟩, rfl⟩
 have ofrdy : ∀ {L : Array Bool} {i : Nat}, i ∈ Region.ready .any l.toArray L → i < l.length ∧ L.getD i false = false ∧ (∀ e ∈ onsB (l.getD i default), L.getD e false = true) := fun {L i} hr => by
  obtain ⟨h1, o, ho, h2⟩ := mem_ready.1 hr
  have hi : i < l.length := by simpa using (Array.getElem?_eq_some_iff.1 ho).1
  have : o = l.getD i default := Option.some.inj (ho.symm.trans (at_op hi))
  subst this
  refine ⟨hi, getD_both h1, fun e he => ?_⟩
  unfold onsB at he
  obtain ⟨x, hx, rfl⟩ := List.mem_map.1 he
  obtain ⟨hx1, hx2⟩ := List.mem_filter.1 hx
  exact h2 x (by simpa using hx1) hx2
 intro f
 induction f with
 | zero =>
  intro L A fr' H' a w hsz hcl hc I R
  have hall : ∀ j, j < l.length → L.getD j false = true := fun j hjl => by
   have := List.countP_eq_zero.1 hc j (List.mem_range.2 hjl)
   simpa using this
  refine ⟨List.eq_nil_iff_forall_not_mem.2 fun i hi => ?_, h A L fr' H' I hall a w R⟩
  obtain ⟨h1, h2, _⟩ := ofrdy hi
  rw [hall i h1] at h2; cases h2
 | succ f ih =>
  intro L A fr' H' a w hsz hcl hc I R
  refine ⟨fun h0 => ?_, fun i hi => ?_⟩
  ·
   exfalso
   have : ∃ j, j < l.length ∧ L.getD j false = false := by
    have h1 : 0 < (List.range l.length).countP (fun j => !L.getD j false) := by omega
    obtain ⟨j, hj1, hj2⟩ := List.countP_pos_iff.1 h1
    exact ⟨j, List.mem_range.1 hj1, by simpa using hj2⟩
   obtain ⟨j, hj1, hj2⟩ := this
   obtain ⟨i, hi1, hi2, hi3⟩ := least (f := fun j => L.getD j false) j hj2
   have := rdy hsz (by omega : i < l.length) hi2 (fun e he => hi3 e ((hj i (by omega)).1 e he))
   rw [h0] at this
   cases this
  ·
   obtain ⟨hil, hLi, hons⟩ := ofrdy hi
   obtain ⟨hlt1, hdf, hkf⟩ := hj i hil
   have RD : ORdy l L i := ⟨fun j hjl hLj e he => ⟨hcl j hjl hLj e he, Nat.lt_trans ((hj j hjl).1 e he) hjl⟩, hil, hLi, fun e he => ⟨hons e he, Nat.lt_trans (hlt1 e he) hil⟩⟩
   have hG := hs i hil L A fr' H' I RD
   have hmem : l.getD i default ∈ l := by simp [hil]
   have hgi : (l.getD i default).guard = none := by
    have := List.all_eq_true.1 hg _ hmem
    simpa using this
   have hdl : ∀ d, (l.getD i default).dst = some d → d < E.n := fun d hd => by
    have := List.all_eq_true.1 hn _ hmem
    rw [hd] at this
    simpa using this
   have hcl' : ∀ j, j < l.length → (L.setIfInBounds i true).getD j false = true → ∀ e ∈ onsB (l.getD j default), (L.setIfInBounds i true).getD e false = true := fun j hjl hLj e he => by
    by_cases hne : j = i
    · subst hne; exact getD_set_true (hons e he)
    · exact getD_set_true (hcl j hjl (set_ne hne hLj) e he)
   have hc' : (List.range l.length).countP (fun j => !(L.setIfInBounds i true).getD j false) = f := by
    have := cnt_one (f := fun j => !L.getD j false) (g := fun j => !(L.setIfInBounds i true).getD j false) (i := i) (by simp [hLi]) (by rw [set_at (by omega)]; rfl) (fun j hne => by rw [getD_set_ne false (Ne.symm hne)]) l.length hil
    omega
   have hsz' : (L.setIfInBounds i true).size = l.length := by simpa using hsz
   unfold wpOp
   rw [at_op hil]
   simp only [Region.wanted, hgi, if_true]
   refine Or.inl ?_
   cases hk : ks.getD i default with
   | q v =>
    rw [hk] at hG
    refine RG.wp_monoQ (fun a' w'' ⟨e, hE⟩ => ?_) (fun _ _ _ h => h.elim) (fun ⟨_, _, h⟩ => h.elim) (hG a w R)
    subst e
    exact ih _ A _ H' _ _ hsz' hcl' hc' (I.q hil hdf hk hdl) ((R.put _ v).below hE)
   | al lab ty cs =>
    rw [hk] at hG
    obtain ⟨z, ho, hz, hzc⟩ := hG
    refine RG.wp_monoQ (fun a' w'' ⟨_, fr2, H2, ⟨b, e1, e2⟩, R2⟩ => ?_) (fun _ _ _ h => h.elim) (fun ⟨_, _, h⟩ => h.elim)
     (S_alloc (K := fun f h => ∃ b, f = fr'.put E.n (l.getD i default).dst (.pointer (some ⟨b, 0, none⟩)) ∧ h = H'.set lab ⟨true, b, 0, ty, cs, 0⟩) _ lab ho hz hzc (fun b => ⟨b, rfl, rfl⟩) rfl a w R)
    subst e1 e2
    exact ih _ _ _ _ _ _ hsz' hcl' hc' (I.al RD (by omega) hdf hkf hk hdl b) R2
   | st lab b0 ty cs rest =>
    rw [hk] at hG
    refine RG.wp_monoQ (fun a' w'' ⟨_, fr2, H2, ⟨e1, e2⟩, R2⟩ => ?_) (fun _ _ _ h => h.elim) (fun ⟨_, _, h⟩ => h.elim) (hG a w R)
    subst e1 e2
    exact ih _ A _ _ _ _ hsz' hcl' hc' (I.st hil (by omega) hkf hk) R2
/-- A REGION THAT DRAWS ITS ORDER, WHATEVER THE ORDER. -/
theorem At.ord {id : Nat} (ks : List OK) (is : List Nat) (hm : P.follows .mixedOrders = true) (hB : okO l ks = true) (hn : dstLt l E.n = true) (hg : (l.all fun o => o.guard.isNone) = true) (his : List.range l.length = is)
  (hs : AllL (fun i => ∀ L A fr' H', OInv l ks fr H L A fr' H' → ORdy l L i → OGoal P E fr' H' A (l.getD i default) (ks.getD i default)) is)
  (h : ∀ A : Nat → Nat, At E (ovr A l ks fr) (hovr A ks H) (Q .normal)) : At E fr H ((Code.region id l.toArray true).wp P Q) := by
 intro a w R
 obtain ⟨hlen, hj⟩ := okO_spec hB
 refine wp_region_any hm ?_
 have h0 : ∀ j, (Array.replicate l.length false).getD j false = false := fun j => by
  by_cases hj : j < l.length
  · simp [hj]
  · simp [Array.getElem?_eq_none (xs := Array.replicate l.length false) (i := j) (by simp; omega)]
 refine ord_go hB hn hg (fun i hi => hs.mem i (by rw [← his]; exact List.mem_range.2 hi)) (fun A L fr' H' I hall => At.weak (fun s v hv => ?_) (fun k r hr => ?_) (h A)) l.length (Array.replicate l.length false) (fun _ => 0) fr H a w.drew (by simp) (fun j _ hL => absurd ((h0 j).symm.trans hL) (by simp)) (by
   rw [List.countP_eq_length.2 (fun j _ => by rw [h0]; rfl)]; simp) ⟨fun s v hv _ => hv, fun j d v _ hL => absurd ((h0 j).symm.trans hL) (by simp), fun k r hr _ => hr, fun j lab ty cs _ _ hL => absurd ((h0 j).symm.trans hL) (by simp), fun j lab b0 ty cs rest _ _ hL => absurd ((h0 j).symm.trans hL) (by simp)⟩ R.drew
 ·
  rcases ovr_some hlen hv with ⟨j, h1, h2, h3⟩ | ⟨h1, h2⟩
  · exact I.done j s v h1 (hall j h1) h2 h3
  · exact I.init s v h1 h2
 ·
  unfold hovr at hr
  split at hr
  ·
   rename_i r' h1
   cases hr
   obtain ⟨j, b0, ty, cs, rest, h2, h3, rfl⟩ := stR_some h1
   exact I.rowS j k b0 ty cs rest (by omega) h3 (hall j (by omega))
  ·
   rename_i h1
   have hst := stR_none h1
   split at hr
   ·
    rename_i r' h2
    cases hr
    obtain ⟨j, ty, cs, h3, h4, rfl⟩ := alR_some h2
    exact I.rowA j k ty cs (by omega) h4 (hall j (by omega)) fun j' _ hs => by rw [hst j'] at hs; cases hs
   ·
    rename_i h2
    have hal := alR_none h2
    refine I.row0 k r hr fun j _ ht => ?_
    rcases ht with ht | ht
    · rw [hal j] at ht; cases ht
    · rw [hst j] at ht; cases ht
end
end SE
end Go


/- Families of rows: row i under the label b + 16 * i, for the i that D allows. -/
namespace Go
namespace SE
open Go.RowKit
set_option linter.unusedVariables false
set_option linter.unusedSimpArgs false
structure Fam where
 b : Nat
 D : Nat → Bool
 F : Nat → Row
def lf (b i : Nat) : Nat := b + 16 * i
/-- Is the label one of the family's? -/
def Fam.has (f : Fam) (k : Nat) : Bool := Nat.ble f.b k && Nat.beq ((k - f.b) % 16) 0 && f.D ((k - f.b) / 16)
def famsOf (H : Hp) : List Fam → Hp
 | [] => H
 | f :: l => fun k => match f.has k with
  | true => some (f.F ((k - f.b) / 16))
  | false => famsOf H l k
def dlt (m i : Nat) : Bool := Nat.blt i m
def dbut (m j i : Nat) : Bool := Nat.blt i m && !Nat.beq i j
theorem beq_f (i j : Nat) : (Nat.beq i j = false) = ¬ (i = j) := propext ⟨fun h => bne h, fun h => bnf h⟩
theorem dlt_iff {m i : Nat} : dlt m i = true ↔ i < m := by simp [dlt]
theorem dbut_iff {m j i : Nat} : dbut m j i = true ↔ i < m ∧ i ≠ j := by simp [dbut, beq_f]
theorem lf_idx (b i : Nat) : (lf b i - b) / 16 = i := by unfold lf; omega
theorem has_lf (f : Fam) (i : Nat) : f.has (lf f.b i) = f.D i := by
 unfold Fam.has
 rw [lf_idx, Nat.ble_eq_true_of_le (show f.b ≤ lf f.b i by unfold lf; omega)]
 have : (lf f.b i - f.b) % 16 = 0 := by unfold lf; omega
 rw [this]
 rfl
theorem has_some {f : Fam} {k : Nat} (h : f.has k = true) : ∃ i, k = lf f.b i ∧ f.D i = true := by
 unfold Fam.has at h
 simp only [Bool.and_eq_true, Nat.ble_eq, Nat.beq_eq] at h
 refine ⟨(k - f.b) / 16, ?_, h.2⟩
 unfold lf
 omega
/-- The family's rows are there. -/
def FamOk (H : Hp) (f : Fam) : Prop := ∀ i, f.D i = true → H (lf f.b i) = some (f.F i)
theorem FamOk.hd {H : Hp} {f : Fam} {l : List Fam} : FamOk (famsOf H (f :: l)) f := fun i hi => by
 show (match f.has (lf f.b i) with | true => some (f.F ((lf f.b i - f.b) / 16)) | false => _) = _
 rw [has_lf, hi, lf_idx]
theorem FamOk.tl {H : Hp} {f g : Fam} {l : List Fam} (hb : (Nat.ble f.b (g.b + 15) && Nat.ble g.b (f.b + 15) && !Nat.beq f.b g.b) = true) (h : FamOk (famsOf H l) f) : FamOk (famsOf H (g :: l)) f := fun i hi => by
 have hn : g.has (lf f.b i) = false := by
  cases hh : g.has (lf f.b i) with
  | false => rfl
  | true =>
   obtain ⟨j, hj, _⟩ := has_some hh
   simp [beq_f] at hb
   unfold lf at hj
   omega
 show (match g.has (lf f.b i) with | true => some (g.F ((lf f.b i - g.b) / 16)) | false => famsOf H l (lf f.b i)) = _
 rw [hn]
 exact h i hi
theorem FamOk.set {H : Hp} {f : Fam} {k : Nat} {r : Row} (hk : Nat.blt k f.b = true) (h : FamOk H f) : FamOk (H.set k r) f := fun i hi => by
 rw [Hp.set_ne]
 · exact h i hi
 ·
  simp only [Nat.blt_eq] at hk
  unfold lf
  omega
theorem FamOk.del {H : Hp} {f : Fam} {k : Nat} (hk : Nat.blt k f.b = true) (h : FamOk H f) : FamOk (H.del k) f := fun i hi => by
 unfold Hp.del
 have : Nat.beq (lf f.b i) k = false := bnf (by simp only [Nat.blt_eq] at hk; unfold lf; omega)
 rw [this]
 exact h i hi
theorem FamOk.nil {H : Hp} {b : Nat} {D : Nat → Bool} {F : Nat → Row} (h : ∀ i, D i = false) : FamOk H ⟨b, D, F⟩ := fun i hi => by
 have hi : D i = true := hi
 rw [h i] at hi
 cases hi
theorem FamOk.congr {H : Hp} {b : Nat} {D D' : Nat → Bool} {F F' : Nat → Row} (h : FamOk H ⟨b, D, F⟩) (hF : ∀ i, D' i = true → D i = true ∧ F' i = F i) : FamOk H ⟨b, D', F'⟩ := fun i hi => by
 have h1 := h i (hF i hi).1
 show H (lf b i) = some (F' i)
 rw [(hF i hi).2]
 exact h1
def ksLow (b : Nat) (ks : List OK) : Bool := ks.all fun k => match k with
 | .al lab _ _ => Nat.blt lab b
 | .st lab _ _ _ _ => Nat.blt lab b
 | _ => true
theorem hovr_high {A : Nat → Nat} {H : Hp} {b k : Nat} (hb : b ≤ k) : ∀ {ks : List OK}, ksLow b ks = true → hovr A ks H k = H k := by
 intro ks hl
 have h1 : stR A k ks = none := by
  cases hh : stR A k ks with
  | none => rfl
  | some r =>
   obtain ⟨j, b0, ty, cs, rest, h2, h3, _⟩ := stR_some hh
   have h4 := List.all_eq_true.1 hl (ks.getD j default) (by rw [List.getD_eq_getElem?_getD, List.getElem?_eq_getElem h2]; exact List.getElem_mem h2)
   rw [h3] at h4
   simp at h4
   omega
 have h2 : alR A k ks = none := by
  cases hh : alR A k ks with
  | none => rfl
  | some r =>
   obtain ⟨j, ty, cs, h2, h3, _⟩ := alR_some hh
   have h4 := List.all_eq_true.1 hl (ks.getD j default) (by rw [List.getD_eq_getElem?_getD, List.getElem?_eq_getElem h2]; exact List.getElem_mem h2)
   rw [h3] at h4
   simp at h4
   omega
 unfold hovr
 rw [h1, h2]
theorem FamOk.hovr {H : Hp} {f : Fam} {A : Nat → Nat} {ks : List OK} (hl : ksLow f.b ks = true) (h : FamOk H f) : FamOk (hovr A ks H) f := fun i hi => by
 rw [hovr_high (show f.b ≤ lf f.b i by unfold lf; omega) hl]
 exact h i hi
theorem FamOk.swap {H : Hp} {f : Fam} {i j : Nat} (hi : Nat.blt i f.b = true) (hj : Nat.blt j f.b = true) (h : FamOk H f) : FamOk (fun k => H (if k = i then j else if k = j then i else k)) f := fun q hq => by
 simp only [Nat.blt_eq] at hi hj
 have h1 : lf f.b q ≠ i := by unfold lf; omega
 have h2 : lf f.b q ≠ j := by unfold lf; omega
 show H (if lf f.b q = i then j else if lf f.b q = j then i else lf f.b q) = _
 rw [if_neg h1, if_neg h2]
 exact h q hq
theorem FamOk.emp {H : Hp} {f : Fam} (h : FamOk H f) : FamOk (famsOf H []) f := h
theorem famsOf_some {H : Hp} {k : Nat} {r : Row} : ∀ {l : List Fam}, famsOf H l k = some r → (∃ f ∈ l, ∃ i, f.D i = true ∧ k = lf f.b i ∧ r = f.F i) ∨ (∀ f ∈ l, f.has k = false) ∧ H k = some r
 | [], h => Or.inr ⟨fun _ hf => (by cases hf), h⟩
 | f :: l, h => by
  cases hh : f.has k with
  | true =>
   have h1 : famsOf H (f :: l) k = some (f.F ((k - f.b) / 16)) := by
    show (match f.has k with | true => _ | false => _) = _
    rw [hh]
   rw [h1] at h
   obtain ⟨i, rfl, hi⟩ := has_some hh
   rw [lf_idx] at h
   exact Or.inl ⟨f, List.mem_cons_self, i, hi, rfl, (Option.some.inj h).symm⟩
  | false =>
   have h1 : famsOf H (f :: l) k = famsOf H l k := by
    show (match f.has k with | true => _ | false => _) = _
    rw [hh]
   rw [h1] at h
   rcases famsOf_some h with ⟨g, hg, i, h2⟩ | ⟨h2, h3⟩
   · exact Or.inl ⟨g, List.mem_cons_of_mem _ hg, i, h2⟩
   ·
    refine Or.inr ⟨fun g hg => ?_, h3⟩
    rcases List.mem_cons.1 hg with rfl | hg
    · exact hh
    · exact h2 g hg
section
variable {E : Env} {fr : Fr} {H : Hp}
/-- Less is known, the families stay. -/
theorem At.toM {T : Act → World → Prop} (l : List (Nat × Value)) (m : List (Nat × Row)) (fs : List Fam) (hf : AllL (fun p => fr p.1 = some p.2) l) (hH : AllL (fun p => H p.1 = some p.2) m) (hF : AllL (FamOk H) fs) (h : At E (frOf l) (famsOf (hOf m) fs) T) : At E fr H T :=
 h.weak (frOf_le hf.mem) fun k r hk => by
  rcases famsOf_some hk with ⟨f, hf, i, hi, rfl, rfl⟩ | ⟨_, h2⟩
  · exact hF.mem f hf i hi
  · exact hOf_le hH.mem k r h2
theorem At.intoF {T : Act → World → Prop} {l : List (Nat × Value)} {m : List (Nat × Row)} {fs : List Fam} (h : At E (frOf l) (famsOf (hOf m) fs) T) (hf : l.map (fun p => fr p.1) = l.map (fun p => some p.2)) (hH : m.map (fun p => H p.1) = m.map (fun p => some p.2)) (hF : AllL (FamOk H) fs) : At E fr H T :=
 h.weak (frOf_le fun p hp => List.map_inj_left.1 hf p hp) fun k r hk => by
  rcases famsOf_some hk with ⟨f, hf, i, hi, rfl, rfl⟩ | ⟨_, h2⟩
  · exact hF.mem f hf i hi
  · exact hOf_le (fun p hp => List.map_inj_left.1 hH p hp) k r h2
end
/-! ### Slices of bytes, in a slice -/
structure BE where
 A : Option Addr
 b : Nat
 c : Nat
 l : List (BitVec 8)
instance : Inhabited BE := ⟨⟨none, 0, 0, []⟩⟩
def BE.ok (e : BE) : Prop := (0 < e.c → e.A = some ⟨e.b, 0, none⟩) ∧ e.l.length ≤ e.c
theorem BE.le {e : BE} (h : e.ok) : e.l.length ≤ e.c := h.2
abbrev BE.v (e : BE) : Value := .slice e.A e.l.length e.c
abbrev BE.row (ty : TypeId) (e : BE) : Row := ⟨true, e.b, 0, ty, e.l.map u8V, e.c - e.l.length⟩
abbrev famB (b : Nat) (ty : TypeId) (es : List BE) : Fam := ⟨b, dlt es.length, fun i => (es.getD i default).row ty⟩
abbrev famBut (b : Nat) (ty : TypeId) (es : List BE) (j : Nat) : Fam := ⟨b, dbut es.length j, fun i => (es.getD i default).row ty⟩
section
variable {E : Env} {fr : Fr} {T : Act → World → Prop} {b k : Nat} {ty : TypeId} {es : List BE} {m : List (Nat × Row)} {fs : List Fam}
theorem FamOk.but {H : Hp} {j : Nat} (h : FamOk H (famB b ty es)) : FamOk H (famBut b ty es j) := h.congr fun i hi => ⟨dlt_iff.2 (dbut_iff.1 hi).1, rfl⟩
end
/-! ### Families handed over -/
section
variable {P : Program} {E : Env} {fr : Fr} {H : Hp} {o : Oper}
end
end SE
end Go


/- Slices of structs: a row's cells are those of its elements, one behind the other. -/
namespace Go
namespace SE
open Go.RowKit
set_option linter.unusedVariables false
set_option linter.unusedSimpArgs false
/-- How an element lies in cells. -/
structure Enc (α : Type) where
 f : α → List Value
 sz : Nat
 pos : 0 < sz
 len : ∀ a, (f a).length = sz
 one : ∀ a, ∀ u ∈ f a, u.oneCell' = true
def encs {α : Type} (e : Enc α) (L : List α) : List Value := L.flatMap e.f
section
variable {α : Type} {e : Enc α}
theorem encs_len (L : List α) : (encs e L).length = L.length * e.sz := by
 induction L with
 | nil => simp [encs]
 | cons a L ih =>
  unfold encs at ih ⊢
  rw [List.flatMap_cons, List.length_append, ih, e.len, List.length_cons, Nat.add_mul, Nat.one_mul, Nat.add_comm]
theorem encs_app (L M : List α) : encs e (L ++ M) = encs e L ++ encs e M := by simp [encs]
theorem encs_take (L : List α) (n : Nat) : (encs e L).take (n * e.sz) = encs e (L.take n) := by
 by_cases h : n ≤ L.length
 ·
  have h1 : L = L.take n ++ L.drop n := (List.take_append_drop n L).symm
  have h2 : (encs e (L.take n)).length = n * e.sz := by rw [encs_len, List.length_take, Nat.min_eq_left h]
  conv => lhs; rw [h1, encs_app]
  rw [← h2, List.take_left]
 · rw [List.take_of_length_le (by rw [encs_len]; exact Nat.mul_le_mul_right _ (by omega)), List.take_of_length_le (by omega)]
theorem encs_drop (L : List α) (n : Nat) : (encs e L).drop (n * e.sz) = encs e (L.drop n) := by
 by_cases h : n ≤ L.length
 ·
  have h1 : L = L.take n ++ L.drop n := (List.take_append_drop n L).symm
  have h2 : (encs e (L.take n)).length = n * e.sz := by rw [encs_len, List.length_take, Nat.min_eq_left h]
  conv => lhs; rw [h1, encs_app]
  rw [← h2, List.drop_left]
 ·
  rw [List.drop_eq_nil_of_le (by rw [encs_len]; exact Nat.mul_le_mul_right _ (by omega)), List.drop_eq_nil_of_le (by omega)]
  rfl
end

section
variable {P : Program} {E : Env} {fr : Fr} {H : Hp} {o : Oper} {t ty : TypeId} {x y : Operand} {v : Value} {α : Type} {en : Enc α}
theorem SrcE.all {L : List α} {m c b q k sz : Nat} {A : Option Addr} {r : Row} (hs : en.sz = sz) (hy : fr.ev y = some (.slice A m c)) (hA : 0 < m → A = some ⟨b, q, none⟩) (hk : 0 < m → H k = some r ∧ r.b = b ∧ r.s + 0 = q) (hl : L.length = m) (hc : r.cells = encs en L := by rfl) : Src P E fr H sz y m (encs en L) := by
 subst hs
 exact Src.row (j := 0) hy hA hk (by rw [hc, List.drop_zero, List.take_of_length_le (by rw [encs_len, hl]; exact Nat.le_refl _)]) (by rw [encs_len, hl])
theorem SrcE.part {L : List α} {m c b q k j sz : Nat} {A : Option Addr} {r : Row} (hs : en.sz = sz) (hy : fr.ev y = some (.slice A m c)) (hA : 0 < m → A = some ⟨b, q, none⟩) (hk : 0 < m → H k = some r ∧ r.b = b ∧ r.s + j * sz = q) (hl : j + m ≤ L.length) (hc : r.cells = encs en L := by rfl) : Src P E fr H sz y m (encs en ((L.drop j).take m)) := by
 subst hs
 exact Src.row (j := j * en.sz) hy hA hk (by rw [hc, encs_drop, encs_take]) (by rw [encs_len, List.length_take, List.length_drop, Nat.min_eq_left (by omega)])
theorem SrcE.tail {L : List α} {m c b q k j sz : Nat} {A : Option Addr} {r : Row} (hs : en.sz = sz) (hy : fr.ev y = some (.slice A m c)) (hA : 0 < m → A = some ⟨b, q, none⟩) (hk : 0 < m → H k = some r ∧ r.b = b ∧ r.s + j * sz = q) (hl : j + m = L.length) (hc : r.cells = encs en L := by rfl) : Src P E fr H sz y m (encs en (L.drop j)) := by
 have h := SrcE.part (P := P) (E := E) (en := en) (L := L) hs hy hA hk (Nat.le_of_eq hl) hc
 rwa [List.take_of_length_le (l := L.drop j) (by rw [List.length_drop]; omega)] at h
end
end SE
end Go


/- append in place, into a block of whatever type: cells of one kind. -/
namespace Go
namespace SE
open Go.RowKit
set_option linter.unusedVariables false
set_option linter.unusedSimpArgs false
section
variable {P : Program} {E : Env} {fr : Fr} {H : Hp} {o : Oper} {x y : Operand}
end
end SE
end Go


/- Families of slices of bytes that begin behind so many of their block's. -/
namespace Go
namespace SE
open Go.RowKit
set_option linter.unusedVariables false
set_option linter.unusedSimpArgs false
/-- A slice l at q of a block's bytes w. -/
structure BG where
 A : Option Addr
 b : Nat
 c : Nat
 l : List (BitVec 8)
 q : Nat
 w : List (BitVec 8)
instance : Inhabited BG := ⟨⟨none, 0, 0, [], 0, []⟩⟩
def BG.ok (e : BG) : Prop := (0 < e.c → e.A = some ⟨e.b, e.q, none⟩) ∧ e.l.length ≤ e.c ∧ (e.w.drop e.q).take e.l.length = e.l ∧ e.q + e.l.length ≤ e.w.length
theorem BG.le {e : BG} (h : e.ok) : e.l.length ≤ e.c := h.2.1
abbrev BG.v (e : BG) : Value := .slice e.A e.l.length e.c
abbrev BG.row (ty : TypeId) (e : BG) : Row := ⟨true, e.b, 0, ty, e.w.map u8V, e.c + e.q - e.w.length⟩
/-- A block's all. -/
abbrev bG (A : Option Addr) (b c : Nat) (l : List (BitVec 8)) : BG := ⟨A, b, c, l, 0, l⟩
/-- What is seen of a slice's block through it. -/
theorem BG.see {e : BG} (h : e.ok) {ty ty' : TypeId} {rest : Nat} : View (e.row ty) ⟨false, e.b, e.q, ty', e.l.map u8V, rest⟩ := by
 refine ⟨rfl, rfl, e.q, (Nat.zero_add _).symm, fun p v hv => ?_⟩
 have h3 := h.2.2.1
 rw [← h3, List.map_take, List.map_drop] at hv
 rw [List.getElem?_take] at hv
 split at hv
 · rwa [List.getElem?_drop] at hv
 · cases hv
abbrev famG (b : Nat) (ty : TypeId) (es : List BG) : Fam := ⟨b, dlt es.length, fun i => (es.getD i default).row ty⟩
theorem getDG_mem {es : List BG} {i : Nat} (h : i < es.length) : es.getD i default ∈ es := by
 rw [List.getD_eq_getElem?_getD, List.getElem?_eq_getElem h]
 exact List.getElem_mem h
section
variable {E : Env} {fr : Fr} {T : Act → World → Prop} {b k : Nat} {ty : TypeId} {es : List BG} {m : List (Nat × Row)} {fs : List Fam}
end
end SE
end Go


/- Functions that take a family's rows, to be read. -/
namespace Go
namespace SE
open Go.RowKit
set_option linter.unusedVariables false
set_option linter.unusedSimpArgs false
/-- What is seen of an element. -/
abbrev BG.vrow (e : BG) : Row := ⟨false, e.b, e.q, 0, e.l.map u8V, 0⟩
abbrev famR (b : Nat) (es : List BG) : Fam := ⟨b, dlt es.length, fun i => (es.getD i default).vrow⟩
theorem HR.famR {E : Env} {w : World} {fixed : List Row} {es : List BG} {b : Nat} (h : HR E (hL (fixed ++ es.map BG.vrow)) w) : HR E (famsOf (hL fixed) [famR b es]) w := by
 have get : ∀ i, i < es.length → (hL (fixed ++ es.map BG.vrow)) (fixed.length + i) = some (es.getD i default).vrow := fun i hi => by
  show (fixed ++ es.map BG.vrow)[fixed.length + i]? = _
  rw [List.getElem?_append_right (Nat.le_add_right _ _), Nat.add_sub_cancel_left, List.getElem?_map, List.getElem?_eq_getElem hi, List.getD_eq_getElem?_getD, List.getElem?_eq_getElem hi]
  rfl
 have low : ∀ k r, hL fixed k = some r → hL (fixed ++ es.map BG.vrow) k = some r := fun k r hk => by
  have hk : fixed[k]? = some r := hk
  show (fixed ++ es.map BG.vrow)[k]? = some r
  rw [List.getElem?_append_left (List.getElem?_eq_some_iff.1 hk).1, hk]
 constructor
 ·
  intro k r hk
  rcases famsOf_some hk with ⟨f, hf, i, hi, _, rfl⟩ | ⟨_, hk⟩
  ·
   rw [List.mem_singleton.1 hf] at hi ⊢
   exact h.row _ _ (get i (dlt_iff.1 hi))
  · exact h.row _ _ (low k r hk)
 ·
  intro k k' r r' hk hk' ho ho' hne h1 h2
  rcases famsOf_some hk with ⟨f, hf, i, hi, _, rfl⟩ | ⟨_, hk⟩
  ·
   rw [List.mem_singleton.1 hf] at ho
   cases ho
  rcases famsOf_some hk' with ⟨f, hf, i, hi, _, rfl⟩ | ⟨_, hk'⟩
  ·
   rw [List.mem_singleton.1 hf] at ho'
   cases ho'
  exact h.apart _ _ _ _ (low k r hk) (low k' r' hk') ho ho' hne h1 h2
section
variable {P : Program}
/-- A function is entered with a family. -/
theorem Con.enterF (b : Nat) {f : FuncId} {fn : Func} {c : Code} {args : List Value} {fixed : List Row} {es : List BG} {post : Value → List Row → Prop} {n : Nat} (hf : P.funcs[f]? = some fn) (hn : fn.ntmps = n) (hle : args.length ≤ n) (hb : fn.body = some c)
  (h : ∀ w, At ⟨w, ownB (fixed ++ es.map BG.vrow), n, []⟩ (frA args) (famsOf (hL fixed) [famR b es])
   (c.wp P (bodyPost P fn fun e w' => ∃ v rows', e = .returned v ∧ post v rows' ∧ Chg (ownB (fixed ++ es.map BG.vrow)) w w' ∧ (∀ r ∈ rows', r.own = true) ∧ HR ⟨w, ownB (fixed ++ es.map BG.vrow), 0, []⟩ (hL rows') w'))) : Con P f args (fixed ++ es.map BG.vrow) post :=
 Con.enter hf hn hle hb fun w a w1 R => h w a w1 ⟨R.df, R.size, R.fr, R.chg, R.heap.famR⟩
end
end SE
end Go


/- Families beside rows of one's own; elements read where they lie. -/
namespace Go
namespace SE
open Go.RowKit
set_option linter.unusedVariables false
set_option linter.unusedSimpArgs false
/-- Other labels, and rows that are only read under as many as one likes. -/
theorem HR.pull {E : Env} {H H' : Hp} {w : World} (h : HR E H w) (hs : ∀ k r, H' k = some r → ∃ j, H j = some r ∧ (r.own = true → j = k)) : HR E H' w := by
 constructor
 ·
  intro k r hk
  obtain ⟨j, hj, _⟩ := hs k r hk
  exact h.row j r hj
 ·
  intro k k' r r' hk hk' ho ho' hne h1 h2
  obtain ⟨j, hj, e⟩ := hs k r hk
  obtain ⟨j', hj', e'⟩ := hs k' r' hk'
  obtain rfl := e ho
  obtain rfl := e' ho'
  exact h.apart _ _ _ _ hj hj' ho ho' hne h1 h2
theorem At.pull {E : Env} {fr : Fr} {H H' : Hp} {T : Act → World → Prop} (hs : ∀ k r, H' k = some r → ∃ j, H j = some r ∧ (r.own = true → j = k)) (h : At E fr H' T) : At E fr H T :=
 fun a w R => h a w ⟨R.df, R.size, R.fr, R.chg, R.heap.pull hs⟩
/-- A row that is only read, under one label more. -/
theorem At.see {E : Env} {fr : Fr} {H : Hp} {T : Act → World → Prop} (k j : Nat) {r : Row} (hk : H j = some r) (ho : r.own = false) (h : At E fr (H.set k r) T) : At E fr H T :=
 At.pull (fun i x hx => by
  rcases Hp.set_some hx with ⟨rfl, rfl⟩ | ⟨_, hx⟩
  · exact ⟨j, hk, fun h => by rw [ho] at h; cases h⟩
  · exact ⟨i, hx, fun _ => rfl⟩) h
/-- A row of no cells. -/
theorem At.row0 {E : Env} {fr : Fr} {H : Hp} {T : Act → World → Prop} (k : Nat) {r : Row} (ho : r.own = false) (hc : r.cells = []) (h : At E fr (H.set k r) T) : At E fr H T := fun a w R => by
 refine h a w ⟨R.df, R.size, R.fr, R.chg, ?_, ?_⟩
 ·
  intro i x hx
  rcases Hp.set_some hx with ⟨rfl, rfl⟩ | ⟨_, hx⟩
  ·
   show (match x.own with | true => _ | false => _)
   rw [ho]
   exact fun h => absurd hc h
  · exact R.heap.row i x hx
 ·
  intro i i' x x' hx hx' h1 h2 hne g1 g2
  rcases Hp.set_some hx with ⟨rfl, rfl⟩ | ⟨_, hx⟩
  · rw [ho] at h1; cases h1
  rcases Hp.set_some hx' with ⟨rfl, rfl⟩ | ⟨_, hx'⟩
  · rw [ho] at h2; cases h2
  exact R.heap.apart _ _ _ _ hx hx' h1 h2 hne g1 g2
/-- The beginning of a row that is only read. -/
theorem At.seeTake {α : Type} {f : α → Value} {E : Env} {fr : Fr} {H : Hp} {T : Act → World → Prop} (k j m : Nat) {b s rest : Nat} {ty : TypeId} {l : List α} (hk : H j = some ⟨false, b, s, ty, l.map f, rest⟩) (h : At E fr (H.set k ⟨false, b, s, 0, (l.take m).map f, 0⟩) T) : At E fr H T := fun a w R => by
 refine h a w ⟨R.df, R.size, R.fr, R.chg, ?_, ?_⟩
 ·
  intro i x hx
  rcases Hp.set_some hx with ⟨rfl, rfl⟩ | ⟨_, hx⟩
  ·
   have h0 : RoR E ⟨false, b, s, ty, l.map f, rest⟩ := R.heap.row j _ hk
   show RoR E _
   intro hne
   have hl : l.map f ≠ [] := fun h => hne (by show (l.take m).map f = []; rw [List.map_take, h, List.take_nil])
   obtain ⟨h1, h2, h3⟩ := h0 hl
   refine ⟨h1, h2, fun q v hq => h3 q v ?_⟩
   have hq : ((l.take m).map f)[q]? = some v := hq
   rw [List.map_take, List.getElem?_take] at hq
   split at hq
   · exact hq
   · cases hq
  · exact R.heap.row i x hx
 ·
  intro i i' x x' hx hx' h1 h2 hne g1 g2
  rcases Hp.set_some hx with ⟨rfl, rfl⟩ | ⟨_, hx⟩
  · cases h1
  rcases Hp.set_some hx' with ⟨rfl, rfl⟩ | ⟨_, hx'⟩
  · cases h2
  exact R.heap.apart _ _ _ _ hx hx' h1 h2 hne g1 g2
/-- An element of a family that is only read. -/
theorem At.famSee {E : Env} {fr : Fr} {H : Hp} {T : Act → World → Prop} (k : Nat) (b : Nat) (es : List BG) (i : Nat) {x : BG} (hx : es.getD i default = x) (hF : FamOk H (famR b es)) (h : At E fr (H.set k x.vrow) T) : At E fr H T := by
 subst hx
 rcases Nat.lt_or_ge i es.length with hi | hi
 · exact At.see k (lf b i) (hF i (dlt_iff.2 hi)) rfl h
 ·
  refine At.row0 k rfl ?_ h
  rw [List.getD_eq_getElem?_getD, List.getElem?_eq_none hi]
  rfl
section
variable {P : Program}
end
/-- What is known of a parameter's elements. -/
def BG.okR (e : BG) : Prop := (0 < e.l.length → e.A = some ⟨e.b, e.q, none⟩) ∧ e.l.length ≤ e.c ∧ e.c ≤ 9223372036854775807
theorem BG.adrR {e : BG} (h : e.okR) (h0 : 0 < e.l.length) : e.A = some ⟨e.b, e.q, none⟩ := h.1 h0
theorem BG.leR {e : BG} (h : e.okR) : e.l.length ≤ e.c ∧ e.c ≤ 9223372036854775807 := h.2
section
variable {P : Program} {E : Env} {fr : Fr} {H : Hp} {o : Oper} {x : Operand}
theorem Q_cast {v v' : Value} (h : v = v') (q : QStep P E fr H o v) : QStep P E fr H o v' := h ▸ q
end
/-- A list of cells out of its elements. -/
theorem encs_of {α : Type} (en : Enc α) (Q : α → Prop) : ∀ (n : Nat) (cs : List Value), cs.length = n * en.sz → (∀ i, i < n → ∃ a, (cs.drop (i * en.sz)).take en.sz = en.f a ∧ Q a) → ∃ L : List α, cs = encs en L ∧ L.length = n ∧ ∀ e ∈ L, Q e
 | 0, cs, hl, _ => ⟨[], List.eq_nil_of_length_eq_zero (by simpa using hl), rfl, fun e he => nomatch he⟩
 | n + 1, cs, hl, h => by
  obtain ⟨a, ha, hq⟩ := h 0 (by omega)
  rw [Nat.zero_mul, List.drop_zero] at ha
  obtain ⟨L, hL, hn, hb⟩ := encs_of en Q n (cs.drop en.sz) (by rw [List.length_drop, hl, Nat.add_mul, Nat.one_mul]; omega) fun i hi => by
   obtain ⟨a, ha⟩ := h (i + 1) (by omega)
   refine ⟨a, ?_⟩
   rwa [List.drop_drop, show en.sz + i * en.sz = (i + 1) * en.sz by rw [Nat.add_mul, Nat.one_mul]; omega]
  refine ⟨a :: L, ?_, by simp [hn], fun e he => ?_⟩
  ·
   rw [← List.take_append_drop en.sz cs, ha, hL]
   rfl
  ·
   rcases List.mem_cons.1 he with rfl | he
   · exact hq
   · exact hb e he
theorem FamOk.sets {f : Fam} : ∀ {ks : List Nat} {rs : List Row} {H : Hp}, (ks.all fun k => Nat.blt k f.b) = true → FamOk H f → FamOk (H.sets ks rs) f
 | [], _, _, _, h => by
  unfold Hp.sets
  exact h
 | _ :: _, [], _, _, h => by
  unfold Hp.sets
  exact h
 | k :: ks, r :: rs, H, hl, h => by
  rw [List.all_cons, Bool.and_eq_true] at hl
  show FamOk ((H.set k r).sets ks rs) f
  exact FamOk.sets hl.2 (FamOk.set hl.1 h)
theorem FamOk.dels {f : Fam} : ∀ {ks : List Nat} {H : Hp}, (ks.all fun k => Nat.blt k f.b) = true → FamOk H f → FamOk (H.dels ks) f
 | [], _, _, h => h
 | k :: ks, H, hl, h => by
  rw [List.all_cons, Bool.and_eq_true] at hl
  show FamOk ((H.del k).dels ks) f
  exact FamOk.dels hl.2 (FamOk.del hl.1 h)
theorem FK2 {H : Hp} {f : Fam} (h : FamOk H f := by repeat (first | exact rfl | assumption | with_reducible exact FamOk.hd | with_reducible refine FamOk.set ?_ ?_ | with_reducible refine FamOk.del ?_ ?_ | with_reducible refine FamOk.tl ?_ ?_ | with_reducible refine FamOk.sets ?_ ?_ | with_reducible refine FamOk.dels ?_ ?_ | with_reducible refine FamOk.emp ?_ | refine FamOk.hovr (by kernel_rfl) ?_ | refine FamOk.swap rfl rfl ?_)) : FamOk H f := h
example (H : Hp) (r : Row) (es fs : List BG) : FamOk ((((famsOf H [famG 100000 5 es, famR 100001 fs]).set 11 r).dels [12]).sets [13, 14] [r, r]) (famR 100001 fs) := FK2
example (H : Hp) (r : Row) (es fs : List BG) : FamOk (famsOf ((((famsOf H [famG 100000 5 es, famR 100001 fs]).set 11 r).dels [12]).sets [13, 14] [r, r]) [famG 100002 6 es]) (famR 100001 fs) := FK2
end SE
end Go


/- Rows of laws that need the bound that each argument's own bytes have; openers that hand it on. Generic (no program). -/
namespace Go
namespace ROW
open Go.ChangeShapes Go.WideShapes Go.ChangeAt Go.RowKit Go.SE
set_option linter.unusedVariables false
set_option linter.unusedSimpArgs false
end ROW
end Go


/- Rows of laws whose statement says what some package-level variables hold: from a walk that does not read them. Generic (no program). -/
namespace Go
namespace ROW
open Go.ChangeShapes Go.WideShapes Go.ChangeAt Go.RowKit Go.SE
set_option linter.unusedVariables false
set_option linter.unusedSimpArgs false
theorem liftedL {C : Checked} {f : FuncId} {fn : Func} {s : ChangeSpec} {tb : TypeId} {L : List (String × DataW Unit)} (os : Os) (started : os.Started) (H : Type) (enc : TypeId × Value → H)
  (own : ownKnob C.prog.godebug = none) (noInit : C.prog.inits.idxOf? f = none) (hfn : C.prog.funcs[f]? = some fn)
  (laid : laidOutB C.prog = true) (hread : fn.params.toList.all (fun t => C.prog.readableRec t && decide (t < C.prog.types.size)) = true)
  (hvars : s.vars = []) (hres : fn.resultTypes = #[tb]) (htb : C.prog.underlying tb = some .bool)
  (hspec : ∀ ds : List (DataW H), ds.length = fn.params.toList.length → s.fn H ds = { results := [.lit (.bool true)], args := ds })
  (witness : ∃ (w : World) (tape : Tape) (i : Input), w.os = os ∧ (w.forCall tape i).Shaped C.prog ∧ i.vars = [] ∧ Input.okWide C.prog (w.forCall tape i) .any w.heap.size f i ∧
   ((s.pre enc C.prog fn [] false (w.forCall tape i).memory i.args ∧ laidMetH C.prog L (w.forCall tape i).memory) ∧ sizedMet enc C.prog fn (OpenSpec.ofChange s) false (w.forCall tape i).memory i.args) ∧ Assume.holds {} C.prog (lone (Frame.enter C.prog f i.args .normal) [] (w.forCall tape i)))
  (walk : ∀ (W : World) (base : Nat) (args : Array Value) (ds : List (DataW H)) (p : List MemPlace),
   (∀ (j : Nat) t v, fn.params[j]? = some t → args[j]? = some v → Value.okWide C.prog W .any base t v) →
   DataW.TrodAll enc C.prog W 0 (fun _ => true) true fn.params.toList args.toList ds p → (∀ x ∈ p, x.block < W.heap.size) →
   Calls C.prog f args W fun e W' => e = .returned (.bool true) ∧ Below W.heap.size W W') :
  ReturnsInHanded {} C os f .any (fun w args => (s.pre enc C.prog fn [] false w args ∧ laidMetH C.prog L w) ∧ sizedMet enc C.prog fn (OpenSpec.ofChange s) false w args) (s.post enc C.prog fn false true false false) := by
 refine returnsInHanded_of_change_and (C := C) (X := fun w _ => laidMetH C.prog L w) (fun _ _ _ hh h => h.of_heap hh) own started noInit hfn witness ?_
 intro W base args ds gs before hval hW hcnd _ _ _
 have hW' := hW
 obtain ⟨p, q, hA, hV, hpq, hfz, hnd⟩ := hW
 rw [hvars] at hV
 obtain ⟨rfl, rfl⟩ := trodVars_none hV
 subst hpq
 have hlt : ∀ x ∈ p, x.block < W.heap.size := fun x hx => by simpa using hW'.lt x (by simp [hx])
 have hlen : ds.length = fn.params.toList.length := lens hA
 refine (walk W base args ds p hval hA hlt).mono fun e W' ⟨he, hb⟩ => ?_
 subst he
 have e0 : s.fn H (ds ++ []) = { results := [.lit (.bool true)], args := ds } := by rw [List.append_nil]; exact hspec ds hlen
 have hb' := stays laid hb hread hA hlt
 refine ⟨_, rfl, ?_⟩
 refine ⟨ds, [], p ++ [], [], p, [], hW', ?_, ?_, ?_, hb.frame _, fun h => by cases h⟩
 · rw [e0, hres]; exact trodAll_mk1 (shut_bool htb _)
 · rw [e0]; exact hb'
 · rw [e0, hvars]; rfl
end ROW
end Go

