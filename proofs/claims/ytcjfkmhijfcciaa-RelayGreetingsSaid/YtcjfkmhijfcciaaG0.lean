import Derived.WalkKit
import Derived.Below
import Derived.LoopN
import Derived.OwnWalk
import Derived.Laws.Bits64
import Derived.Laws.BitsAllLaws
import Derived.Laws.BitsLemmas
import Derived.Still
import Derived.Deep.Quiet
import Derived.StillTail
import Derived.Tactics
import Derived.Laws.MakeOwn
import Derived.Laws.BytesString
import Derived.ProofKit
import Derived.OpenShut
import Derived.Carry
import Derived.Outline
import Derived.Lib.SmallJoins
import Derived.RangeFuncLeaves
import Derived.RangeFuncRecord
import Derived.RangeFuncSeq
import Derived.LoopNIn
import Derived.TacticsIn
import Derived.OrdersIn
import Derived.KernelRfl
import Derived.RangeFuncOwn
import Derived.ChangeKeysEq
import Derived.Laws.StructEq
import Derived.ChangeMaps5
import Derived.ChangeArms
/-
 A walk whose memory is named: rows of cells known by number, the frame a function of the slots. Generic (no program).
-/
namespace Go
namespace SE
open Go.RowKit
set_option linter.unusedVariables false
set_option linter.unusedSimpArgs false

def tsz (P : Program) (t : TypeId) : Option Nat := (P.info? t).map (·.size)
def tby (P : Program) (t : TypeId) : Option Nat := (P.info? t).map (·.bytes)
def tze (P : Program) (t : TypeId) : Option Value := (P.info? t).bind (·.zero)

/-- A row of cells: the call's own (a whole block, 'rest' cells more behind the known ones), or one that is only read. -/
structure Row where
 own : Bool
 b : Nat
 s : Nat
 ty : TypeId
 cells : List Value
 rest : Nat

abbrev Fr := Nat → Option Value
abbrev Hp := Nat → Option Row

structure Env where
 W0 : World
 S : List Nat
 n : Nat
 df : List Deferred

/-- Nothing but the blocks S has turned, of those that were there. -/
structure Chg (S : List Nat) (w w' : World) : Prop where
 os : w'.os = w.os
 tape : w'.tape = w.tape
 output : w'.output = w.output
 size : w.heap.size ≤ w'.heap.size
 block : ∀ k, k < w.heap.size → k ∉ S → w'.heap[k]? = w.heap[k]?

theorem Chg.refl (S : List Nat) (w : World) : Chg S w w := ⟨rfl, rfl, rfl, Nat.le_refl _, fun _ _ _ => rfl⟩
theorem Chg.trans {S : List Nat} {a b c : World} (h : Chg S a b) (k : Chg S b c) : Chg S a c :=
 ⟨k.os.trans h.os, k.tape.trans h.tape, k.output.trans h.output, Nat.le_trans h.size k.size, fun i hi hn => (k.block i (Nat.lt_of_lt_of_le hi h.size) hn).trans (h.block i hi hn)⟩
theorem Chg.of_below {S : List Nat} {w w' : World} (h : Below w.heap.size w w') : Chg S w w' := ⟨h.os, h.tape, h.output, h.size, fun k hk _ => h.block k hk⟩
theorem Chg.below {w w' : World} (h : Chg [] w w') : Below w.heap.size w w' := ⟨h.os, h.tape, h.output, h.size, fun k hk => h.block k hk (by simp)⟩
theorem Chg.mono {S T : List Nat} {w w' : World} (h : Chg S w w') (hST : ∀ k ∈ S, k ∈ T) : Chg T w w' :=
 ⟨h.os, h.tape, h.output, h.size, fun k hk hn => h.block k hk (fun hm => hn (hST k hm))⟩
/-- What was new for the caller's world may turn as well. -/
theorem Chg.trans_new {S T : List Nat} {a b c : World} (h : Chg S a b) (k : Chg T b c) (hT : ∀ x ∈ T, x ∈ S ∨ a.heap.size ≤ x) : Chg S a c :=
 ⟨k.os.trans h.os, k.tape.trans h.tape, k.output.trans h.output, Nat.le_trans h.size k.size, fun i hi hn => (k.block i (Nat.lt_of_lt_of_le hi h.size) (fun hm => by
  rcases hT i hm with h1 | h1
  · exact hn h1
  · omega)).trans (h.block i hi hn)⟩

/-- A map of integers: those that are there are true. A row whose place is not nought is a map's: the place is its content's number. -/
def zig : Int → Nat
 | .ofNat n => 2 * n
 | .negSucc n => 2 * n + 1
def mcode : List Int → Nat
 | [] => 0
 | x :: l => 2 ^ zig x * (2 * mcode l + 1)
def MapU (es : Array MapEntry) (U : List Int) : Prop := es.toList.map (fun e => (e.key, e.val)) = U.map fun x => (Value.int .i64 x, Value.bool true)
def HoldsC (r : Row) (o : Option Obj) : Prop := ∃ (tl : List Value) (fz : Nat × Nat), tl.length = r.rest ∧ (fz = (0, 0) ∨ r.cells.length + r.rest ≤ fz.1) ∧ o = some (.cells (r.cells ++ tl).toArray r.ty fz)
def HoldsM (r : Row) (o : Option Obj) : Prop := r.cells = [] ∧ ∃ (U : List Int) (es : Array MapEntry) (clock : Nat), mcode U + 1 = r.s ∧ o = some (.map es clock) ∧ MapU es U
def Holds (r : Row) (o : Option Obj) : Prop := r.s = 0 ∧ HoldsC r o ∨ r.s ≠ 0 ∧ HoldsM r o
def isRow : Obj → Bool
 | .cells .. => true
 | .map .. => true
 | _ => false
theorem Holds.row {r : Row} {o : Option Obj} (h : Holds r o) : ∃ x, o = some x ∧ isRow x = true := by
 rcases h with ⟨_, tl, fz, _, _, h⟩ | ⟨_, _, U, es, clock, _, h, _⟩
 · exact ⟨_, h, rfl⟩
 · exact ⟨_, h, rfl⟩
def OwnR (E : Env) (r : Row) (w : World) : Prop :=
 (r.s = 0 ∨ r.cells = []) ∧ (r.cells.length + r.rest ≠ 0 → r.b < w.heap.size ∧ (r.b ∈ E.S ∨ E.W0.heap.size ≤ r.b) ∧ Holds r w.heap[r.b]?)
def RoR (E : Env) (r : Row) : Prop :=
 r.cells ≠ [] → r.b < E.W0.heap.size ∧ r.b ∉ E.S ∧ ∀ j v, r.cells[j]? = some v → E.W0.cell? ⟨r.b, r.s + j, none⟩ = some v
def RowR (E : Env) (r : Row) (w : World) : Prop := match r.own with | true => OwnR E r w | false => RoR E r

structure HR (E : Env) (H : Hp) (w : World) : Prop where
 row : ∀ k r, H k = some r → RowR E r w
 apart : ∀ k k' r r', H k = some r → H k' = some r' → r.own = true → r'.own = true → k ≠ k' → r.cells.length + r.rest ≠ 0 → r'.cells.length + r'.rest ≠ 0 → r.b ≠ r'.b

structure Rep (E : Env) (fr : Fr) (H : Hp) (a : Act) (w : World) : Prop where
 df : a.defers = E.df
 size : a.tmps.size = E.n
 fr : ∀ i v, fr i = some v → a.tmps[i]? = some v
 chg : Chg E.S E.W0 w
 heap : HR E H w

def At (E : Env) (fr : Fr) (H : Hp) (T : Act → World → Prop) : Prop := ∀ a w, Rep E fr H a w → T a w

/-- The frame with one slot more. -/
def Fr.put (n : Nat) (fr : Fr) : Option Tmp → Value → Fr
 | none, _ => fr
 | some d, v => fun i => match Nat.beq i d with
  | true => (match Nat.blt d n with | true => some v | false => fr i)
  | false => fr i
def Fr.ev (fr : Fr) : Operand → Option Value
 | .tmp t => fr t
 | .const v => some v
 | .global g => some (.pointer (some ⟨g, 0, none⟩))
 | .func f => some (.func (.func f) #[] #[])
def Hp.set (H : Hp) (k : Nat) (r : Row) : Hp := fun i => match Nat.beq i k with
 | true => some r
 | false => H i
def Hp.del (H : Hp) (k : Nat) : Hp := fun i => match Nat.beq i k with
 | true => none
 | false => H i
def frOf : List (Nat × Value) → Fr
 | [] => fun _ => none
 | (k, v) :: l => fun i => match Nat.beq i k with
  | true => some v
  | false => frOf l i
def hOf : List (Nat × Row) → Hp
 | [] => fun _ => none
 | (k, v) :: l => fun i => match Nat.beq i k with
  | true => some v
  | false => hOf l i

theorem bne {i k : Nat} (h : Nat.beq i k = false) : i ≠ k := Nat.ne_of_beq_eq_false h
theorem bnf {i k : Nat} (h : i ≠ k) : Nat.beq i k = false := by
 cases hb : Nat.beq i k with
 | false => rfl
 | true => exact absurd (Nat.eq_of_beq_eq_true hb) h
theorem bnl {i k : Nat} (h : Nat.blt i k = false) : k ≤ i := by
 have : ¬ i < k := fun hl => by
  have h2 : Nat.blt i k = true := Nat.ble_eq_true_of_le hl
  rw [h] at h2; cases h2
 omega
theorem Hp.set_same (H : Hp) (k : Nat) (r : Row) : H.set k r k = some r := by simp [Hp.set]
theorem Hp.set_ne (H : Hp) {k i : Nat} (r : Row) (h : i ≠ k) : H.set k r i = H i := by
 unfold Hp.set
 rw [bnf h]
theorem Hp.del_some {H : Hp} {k i : Nat} {r : Row} (h : H.del k i = some r) : i ≠ k ∧ H i = some r := by
 unfold Hp.del at h
 split at h
 · cases h
 ·
  rename_i hb
  exact ⟨bne hb, h⟩
theorem Hp.set_some {H : Hp} {k i : Nat} {r x : Row} (h : H.set k r i = some x) : (i = k ∧ x = r) ∨ (i ≠ k ∧ H i = some x) := by
 unfold Hp.set at h
 split at h
 ·
  rename_i hb
  exact Or.inl ⟨by simpa using hb, (Option.some.inj h).symm⟩
 ·
  rename_i hb
  exact Or.inr ⟨bne hb, h⟩

section
variable {E : Env} {fr : Fr} {H : Hp} {a : Act} {w : World}

theorem Rep.ev (h : Rep E fr H a w) {x : Operand} {v : Value} (hx : fr.ev x = some v) : a.eval x = v := by
 cases x with
 | tmp t =>
  have := h.fr t v hx
  simp [Act.eval, this]
 | const c => exact Option.some.inj hx
 | global g => exact Option.some.inj hx
 | func f => exact Option.some.inj hx

theorem Rep.put (h : Rep E fr H a w) (d : Option Tmp) (v : Value) : Rep E (fr.put E.n d v) H (a.put d v) w := by
 cases d with
 | none => exact h
 | some d =>
  refine ⟨h.df, by simpa [Act.put] using h.size, fun i u hu => ?_, h.chg, h.heap⟩
  have hs := h.size
  unfold Fr.put at hu
  dsimp only at hu
  split at hu
  ·
   rename_i hi
   have hi : i = d := by simpa using hi
   subst hi
   split at hu
   ·
    rename_i hd
    have hd : i < E.n := by simpa using hd
    have hu := Option.some.inj hu
    subst hu
    simp [Act.put, hs, hd]
   ·
    rename_i hd
    have hd : E.n ≤ i := bnl hd
    have h1 := h.fr i u hu
    have h2 := (Array.getElem?_eq_some_iff.1 h1).1
    omega
  ·
   rename_i hi
   have hi : i ≠ d := bne hi
   have h1 := h.fr i u hu
   simp [Act.put, Array.getElem?_setIfInBounds_ne (Ne.symm hi), h1]

/-- Less is known. -/
theorem At.weak {T : Act → World → Prop} {fr' : Fr} {H' : Hp} (hf : ∀ i v, fr' i = some v → fr i = some v) (hH : ∀ k r, H' k = some r → H k = some r) (h : At E fr' H' T) : At E fr H T :=
 fun a w r => h a w ⟨r.df, r.size, fun i v hv => r.fr i v (hf i v hv), r.chg, ⟨fun k x hx => r.heap.row k x (hH k x hx), fun k k' x x' hx hx' => r.heap.apart k k' x x' (hH _ _ hx) (hH _ _ hx')⟩⟩
theorem At.mono {T T' : Act → World → Prop} (h : At E fr H T) (hT : ∀ a w, T a w → T' a w) : At E fr H T' := fun a w r => hT a w (h a w r)

theorem frOf_le {fr : Fr} : ∀ {l : List (Nat × Value)}, (∀ p ∈ l, fr p.1 = some p.2) → ∀ i v, frOf l i = some v → fr i = some v
 | [], _, i, v, h => by simp [frOf] at h
 | (k, u) :: l, hl, i, v, h => by
  unfold frOf at h
  split at h
  ·
   rename_i hb
   have hb : i = k := by simpa using hb
   subst hb
   rw [← h]
   exact hl (i, u) List.mem_cons_self
  · exact frOf_le (fun p hp => hl p (List.mem_cons_of_mem _ hp)) i v h
theorem hOf_le {H : Hp} : ∀ {l : List (Nat × Row)}, (∀ p ∈ l, H p.1 = some p.2) → ∀ i v, hOf l i = some v → H i = some v
 | [], _, i, v, h => by simp [hOf] at h
 | (k, u) :: l, hl, i, v, h => by
  unfold hOf at h
  split at h
  ·
   rename_i hb
   have hb : i = k := by simpa using hb
   subst hb
   rw [← h]
   exact hl (i, u) List.mem_cons_self
  · exact hOf_le (fun p hp => hl p (List.mem_cons_of_mem _ hp)) i v h
/-- All of a list, one behind the other. -/
def AllL {α : Type} (p : α → Prop) : List α → Prop
 | [] => True
 | [x] => p x
 | x :: y :: l => p x ∧ AllL p (y :: l)
theorem AllL.mem {α : Type} {p : α → Prop} : ∀ {l : List α}, AllL p l → ∀ x ∈ l, p x
 | [], _, x, hx => by cases hx
 | [y], h, x, hx => by rw [List.mem_singleton.1 hx]; exact h
 | y :: z :: l, h, x, hx => by
  rcases List.mem_cons.1 hx with rfl | hx
  · exact h.1
  · exact AllL.mem h.2 x hx
theorem At.to {T : Act → World → Prop} (l : List (Nat × Value)) (m : List (Nat × Row)) (hf : AllL (fun p => fr p.1 = some p.2) l) (hH : AllL (fun p => H p.1 = some p.2) m) (h : At E (frOf l) (hOf m) T) : At E fr H T :=
 h.weak (frOf_le hf.mem) (hOf_le hH.mem)

/-! ### Worlds that grow -/
theorem RowR.chg {S : List Nat} {r : Row} {w w' : World} (h : RowR E r w) (hc : Chg S w w') (hb : r.own = true → r.cells.length + r.rest ≠ 0 → r.b ∉ S) : RowR E r w' := by
 unfold RowR at *
 split at h
 ·
  rename_i ho
  obtain ⟨h1, h2⟩ := h
  refine ⟨h1, fun hz => ?_⟩
  obtain ⟨h2, h3, h4⟩ := h2 hz
  exact ⟨Nat.lt_of_lt_of_le h2 hc.size, h3, by rw [hc.block _ h2 (hb ho hz)]; exact h4⟩
 · exact h
theorem HR.chg {S : List Nat} {w w' : World} (h : HR E H w) (hc : Chg S w w') (hb : ∀ k r, H k = some r → r.own = true → r.cells.length + r.rest ≠ 0 → r.b ∉ S) : HR E H w' :=
 ⟨fun k r hr => (h.row k r hr).chg hc (hb k r hr), h.apart⟩
theorem HR.below {w w' : World} (h : HR E H w) (hc : Below w.heap.size w w') : HR E H w' := h.chg (S := []) (Chg.of_below hc) (fun _ _ _ _ _ => by simp)
theorem Rep.below {w' : World} (h : Rep E fr H a w) (hc : Below w.heap.size w w') : Rep E fr H a w' :=
 ⟨h.df, h.size, h.fr, h.chg.trans (Chg.of_below hc), h.heap.below hc⟩
theorem Rep.drew (h : Rep E fr H a w) : Rep E fr H a w.drew := h.below (Below.refl _ _).drew
theorem HR.ownB_ {k : Nat} {r : Row} (h : HR E H w) (hk : H k = some r) (ho : r.own = true) (hz : r.cells.length + r.rest ≠ 0) : r.b < w.heap.size ∧ (r.b ∈ E.S ∨ E.W0.heap.size ≤ r.b) ∧ Holds r w.heap[r.b]? := by
 have := h.row k r hk
 unfold RowR at this
 rw [ho] at this
 exact this.2 hz
theorem HR.own_ {k : Nat} {r : Row} (h : HR E H w) (hk : H k = some r) (ho : r.own = true) (hz : r.cells.length + r.rest ≠ 0) (hs : r.s = 0 := by rfl) :
  r.s = 0 ∧ r.b < w.heap.size ∧ (r.b ∈ E.S ∨ E.W0.heap.size ≤ r.b) ∧ ∃ (tl : List Value) (fz : Nat × Nat), tl.length = r.rest ∧ (fz = (0, 0) ∨ r.cells.length + r.rest ≤ fz.1) ∧ w.heap[r.b]? = some (.cells (r.cells ++ tl).toArray r.ty fz) := by
 obtain ⟨h1, h2, h3⟩ := h.ownB_ hk ho hz
 rcases h3 with ⟨_, h3⟩ | ⟨h3, _⟩
 · exact ⟨hs, h1, h2, h3⟩
 · exact absurd hs h3
/-- A new block. -/
theorem HR.new {w' : World} (h : HR E H w) (hw : Chg E.S E.W0 w) (hb : Below w.heap.size w w') (k : Nat) (cs tl : List Value) (t : TypeId) (fz : Nat × Nat) (hf : fz = (0, 0) ∨ cs.length + tl.length ≤ fz.1)
  (b : Nat) (hlo : w.heap.size ≤ b) (hhi : b < w'.heap.size) (hcell : w'.heap[b]? = some (.cells (cs ++ tl).toArray t fz)) : HR E (H.set k ⟨true, b, 0, t, cs, tl.length⟩) w' := by
 refine ⟨fun i r hr => ?_, fun i j r r' hr hr' ho ho' hij hz hz' => ?_⟩
 ·
  rcases Hp.set_some hr with ⟨rfl, rfl⟩ | ⟨_, hr⟩
  · exact ⟨Or.inl rfl, fun _ => ⟨hhi, Or.inr (Nat.le_trans hw.size hlo), Or.inl ⟨rfl, tl, fz, rfl, hf, hcell⟩⟩⟩
  · exact (h.below hb).row i r hr
 ·
  rcases Hp.set_some hr with ⟨e1, e2⟩ | ⟨h1, hr1⟩ <;> rcases Hp.set_some hr' with ⟨e3, e4⟩ | ⟨h2, hr2⟩
  · exact absurd (e1.trans e3.symm) hij
  · have := (h.ownB_ hr2 ho' hz').1; subst e2; dsimp only; omega
  · have := (h.ownB_ hr1 ho hz).1; subst e4; dsimp only; omega
  · exact h.apart i j r r' hr1 hr2 ho ho' hij hz hz'
theorem HR.alloc (h : HR E H w) (hw : Chg E.S E.W0 w) (k : Nat) (cs : Array Value) (t : TypeId) : HR E (H.set k ⟨true, w.heap.size, 0, t, cs.toList, 0⟩) (w.alloc (.cells cs t)) :=
 h.new hw ((Below.refl _ _).alloc (Nat.le_refl _) _) k cs.toList [] t (0, 0) (Or.inl rfl) _ (Nat.le_refl _) (by simp) (by simpa using heap_alloc_new w (.cells cs t))
/-- A row that may be written has other cells: the known ones are more or fewer, the block is as large as it was. -/
theorem HR.write {w' : World} {k : Nat} {r : Row} {cs : List Value} {rest : Nat} (h : HR E H w) (hk : H k = some r) (ho : r.own = true) (hz : r.cells.length + r.rest ≠ 0) (hl : cs.length + rest = r.cells.length + r.rest)
  (hc : Chg [r.b] w w') (hh : ∀ (tl : List Value) (fz : Nat × Nat), tl.length = r.rest → w.heap[r.b]? = some (.cells (r.cells ++ tl).toArray r.ty fz) → ∃ tl' : List Value, tl'.length = rest ∧ w'.heap[r.b]? = some (.cells (cs ++ tl').toArray r.ty fz)) (hs : r.s = 0 := by rfl) :
  HR E (H.set k { r with cells := cs, rest := rest }) w' := by
 obtain ⟨h1, h2, h3, tl, fz, h4, hf, h5⟩ := h.own_ hk ho hz hs
 obtain ⟨tl', h6, h7⟩ := hh tl fz h4 h5
 refine ⟨fun i x hx => ?_, fun i j x x' hx hx' hxo hxo' hij hz1 hz2 => ?_⟩
 ·
  rcases Hp.set_some hx with ⟨rfl, rfl⟩ | ⟨hne, hx⟩
  ·
   unfold RowR
   dsimp only
   rw [ho]
   exact ⟨Or.inl h1, fun _ => ⟨Nat.lt_of_lt_of_le h2 hc.size, h3, Or.inl ⟨h1, tl', fz, h6, by dsimp only; rw [hl]; exact hf, h7⟩⟩⟩
  ·
   refine (h.row i x hx).chg hc fun hxo hxz hm => ?_
   exact h.apart i k x r hx hk hxo ho hne hxz hz (by simpa using hm)
 ·
  rcases Hp.set_some hx with ⟨e1, e2⟩ | ⟨h1, hx1⟩ <;> rcases Hp.set_some hx' with ⟨e3, e4⟩ | ⟨h2, hx2⟩
  · exact absurd (e1.trans e3.symm) hij
  · subst e1 e2; have := h.apart i j r x' hk hx2 ho hxo' hij hz hz2; exact this
  · subst e3 e4; have := h.apart i j x r hx1 hk hxo ho hij hz1 hz; exact this
  · exact h.apart i j x x' hx1 hx2 hxo hxo' hij hz1 hz2
theorem HR.del {k : Nat} (h : HR E H w) : HR E (H.del k) w :=
 ⟨fun i r hr => h.row i r (Hp.del_some hr).2, fun i j r r' hr hr' => h.apart i j r r' (Hp.del_some hr).2 (Hp.del_some hr').2⟩

/-- A cell of a row. -/
theorem HR.cell {k : Nat} {r : Row} {j : Nat} {v : Value} (h : HR E H w) (hc : Chg E.S E.W0 w) (hk : H k = some r) (hj : r.cells[j]? = some v) : w.cell? ⟨r.b, r.s + j, none⟩ = some v := by
 have hr := h.row k r hk
 unfold RowR at hr
 split at hr
 ·
  have hlt := (List.getElem?_eq_some_iff.1 hj).1
  obtain ⟨_, h2⟩ := hr
  obtain ⟨_, _, h3⟩ := h2 (by omega)
  rcases h3 with ⟨h1, tl, fz, _, _, h5⟩ | ⟨_, h3, _⟩
  rotate_left
  ·
   rw [h3] at hlt
   cases hlt
  rw [cell_of_row w r.b _ _ _ _ h5, h1]
  simp [List.getElem?_append_left hlt, hj]
 ·
  have hne : r.cells ≠ [] := by rintro he; rw [he] at hj; simp at hj
  obtain ⟨h1, h2, h3⟩ := hr hne
  rw [World.cell?_of_block (w := E.W0) (hc.block _ h1 h2)]
  exact h3 j v hj
end
end SE
end Go


/- Operations that only reckon. -/
namespace Go
namespace SE
open Go.RowKit
set_option linter.unusedVariables false
set_option linter.unusedSimpArgs false

abbrev u8V (x : BitVec 8) : Value := .int .u8 (x.toNat : Int)
abbrev u32V (x : BitVec 32) : Value := .int .u32 (x.toNat : Int)
abbrev u64V (x : BitVec 64) : Value := .int .u64 (x.toNat : Int)
abbrev iV (x : Int) : Value := .int .i64 x
abbrev ptr (b o : Nat) : Value := .pointer (some ⟨b, o, none⟩)
def FrOk (fr : Fr) (a : Act) : Prop := ∀ i v, fr i = some v → a.tmps[i]? = some v
theorem FrOk.ev {fr : Fr} {a : Act} (h : FrOk fr a) {x : Operand} {v : Value} (hx : fr.ev x = some v) : a.eval x = v := by
 cases x with
 | tmp t => have := h t v hx; simp [Act.eval, this]
 | const c => exact Option.some.inj hx
 | global g => exact Option.some.inj hx
 | func f => exact Option.some.inj hx

/-- The operation yields v, in whatever world. -/
def PStep (P : Program) (fr : Fr) (o : Oper) (v : Value) : Prop := ∀ a, FrOk fr a → ∀ w, (execOp a.eval o).run P w = .ok (.value v) w
/-- .. in a world whose rows are known. -/
def QStep (P : Program) (E : Env) (fr : Fr) (H : Hp) (o : Oper) (v : Value) : Prop := ∀ a w, Rep E fr H a w → (execOp a.eval o).run P w = .ok (.value v) w
theorem PStep.q {P : Program} {E : Env} {fr : Fr} {H : Hp} {o : Oper} {v : Value} (h : PStep P fr o v) : QStep P E fr H o v := fun a w r => h a r.fr w

inductive UK : IntKind → Nat → Prop
 | u8 : UK .u8 8
 | u16 : UK .u16 16
 | u32 : UK .u32 32
 | u64 : UK .u64 64

section nums
variable {k : IntKind} {n : Nat}
theorem UK.wrap (h : UK k n) (z : Int) : k.wrap z = z % ((2 ^ n : Nat) : Int) := by
 cases h
 · exact IntKind.wrap_u8 z
 · exact IntKind.wrap_u16 z
 · exact IntKind.wrap_u32 z
 · exact IntKind.wrap_u64 z
theorem UK.pos (h : UK k n) : 0 < n := by cases h <;> decide
theorem UK.wrap_nat (h : UK k n) (m : Nat) : k.wrap (m : Int) = ((m % 2 ^ n : Nat) : Int) := by rw [h.wrap]; rfl
theorem UK.wrap_bv (h : UK k n) (x : BitVec n) : k.wrap (x.toNat : Int) = (x.toNat : Int) := by
 rw [h.wrap_nat, Nat.mod_eq_of_lt x.isLt]
theorem UK.add (h : UK k n) (a b : BitVec n) : k.wrap ((a.toNat : Int) + (b.toNat : Int)) = ((a + b).toNat : Int) := by
 rw [← Int.natCast_add, h.wrap_nat, BitVec.toNat_add]
theorem UK.mul (h : UK k n) (a b : BitVec n) : k.wrap ((a.toNat : Int) * (b.toNat : Int)) = ((a * b).toNat : Int) := by
 rw [← Int.natCast_mul, h.wrap_nat, BitVec.toNat_mul]
theorem UK.sub (h : UK k n) (a b : BitVec n) : k.wrap ((a.toNat : Int) - (b.toNat : Int)) = ((a - b).toNat : Int) := by
 rw [h.wrap, BitVec.toNat_sub]
 have ha := a.isLt
 have hb := b.isLt
 have e : ((2 ^ n - b.toNat + a.toNat : Nat) : Int) = (a.toNat : Int) - (b.toNat : Int) + ((2 ^ n : Nat) : Int) := by omega
 rw [Int.natCast_emod, e, Int.add_emod_right]
theorem UK.bits (h : UK k n) : k.bits = n := by cases h <;> rfl
theorem UK.ofInt (h : UK k n) (z : Int) : k.wrap z = ((BitVec.ofInt n z).toNat : Int) := by
 rw [h.wrap, BitVec.toNat_ofInt]
 have : (0 : Int) < ((2 ^ n : Nat) : Int) := by have := Nat.two_pow_pos n; omega
 have h2 := Int.emod_nonneg z (b := ((2 ^ n : Nat) : Int)) (by omega)
 omega
theorem i64_in (z : Int) (h : -9223372036854775808 ≤ z ∧ z ≤ 9223372036854775807) : IntKind.i64.wrap z = z := by
 rw [IntKind.wrap_i64]; omega
theorem i64_of_small (h : UK k n) (hn : n ≤ 32) (x : BitVec n) : IntKind.i64.wrap (x.toNat : Int) = (x.toNat : Int) := by
 have h1 := x.isLt
 have h2 : 2 ^ n ≤ 2 ^ 32 := Nat.pow_le_pow_right (by decide) hn
 exact i64_in _ (by omega)
end nums

/-- The integers' operations. -/
def intop (op : BinOp) (k : IntKind) (a b : Int) : Value :=
 match op with
 | .add => .int k (k.wrap (a + b))
 | .sub => .int k (k.wrap (a - b))
 | .mul => .int k (k.wrap (a * b))
 | .quo => .int k (k.wrap (a.tdiv b))
 | .rem => .int k (a.tmod b)
 | .and => .int k (k.wrap (BitVec.ofInt k.bits a &&& BitVec.ofInt k.bits b).toNat)
 | .or => .int k (k.wrap (BitVec.ofInt k.bits a ||| BitVec.ofInt k.bits b).toNat)
 | .xor => .int k (k.wrap (BitVec.ofInt k.bits a ^^^ BitVec.ofInt k.bits b).toNat)
 | .andNot => .int k (k.wrap (BitVec.ofInt k.bits a &&& ~~~ BitVec.ofInt k.bits b).toNat)
 | .eql => .bool (a == b)
 | .neq => .bool (a != b)
 | .lss => .bool (a < b)
 | .leq => .bool (a ≤ b)
 | .gtr => .bool (a > b)
 | .geq => .bool (a ≥ b)
 | _ => .bool false
def isShift : BinOp → Bool
 | .shl | .shr => true
 | _ => false
def shop (op : BinOp) (k : IntKind) (a b : Int) : Int := match op with
 | .shl => k.wrap (a * 2 ^ (min b.toNat k.bits))
 | _ => a.fdiv (2 ^ (min b.toNat k.bits))
def isDiv : BinOp → Bool
 | .quo | .rem => true
 | _ => false
def isIntop : BinOp → Bool
 | .add | .sub | .mul | .quo | .rem | .and | .or | .xor | .andNot | .eql | .neq | .lss | .leq | .gtr | .geq => true
 | _ => false

section
variable {P : Program} {fr : Fr} {o : Oper} {t ty : TypeId} {x y : Operand} {v : Value}

theorem run_intop (op : BinOp) (k : IntKind) (a b : Int) (t : TypeId) (h : isIntop op = true) (hd : isDiv op = true → b ≠ 0) (w : World) :
  (binOp op t (.int k a) (.int k b)).run P w = .ok (intop op k a b) w := by
 cases op <;> simp [isIntop] at h <;> simp [binOp, intop, Op.intArith, Op.intDiv, Op.intBits, Op.intCmp, isDiv] at hd ⊢ <;> simp [hd]

theorem P_bin {op : BinOp} {k : IntKind} {a b : Int} (ho : o.op = .binOp op t x y ty) (hx : fr.ev x = some (.int k a)) (hy : fr.ev y = some (.int k b)) (h : isIntop op = true) (hd : isDiv op = true → b ≠ 0) :
  PStep P fr o (intop op k a b) := by
 intro A hA w
 have h1 := run_intop (P := P) op k a b t h hd w
 unfold execOp
 simp [ho, hA.ev hx, hA.ev hy, eqGuard, h1]
theorem P_bin' {op : BinOp} {k : IntKind} {a b : Int} {r : Value} (ho : o.op = .binOp op t x y ty) (hx : fr.ev x = some (.int k a)) (hy : fr.ev y = some (.int k b)) (h : isIntop op = true) (hd : isDiv op = true → b ≠ 0) (hr : intop op k a b = r) :
  PStep P fr o r := hr ▸ P_bin ho hx hy h hd

/-! int -/
theorem P_add_i {a b : Int} (ho : o.op = .binOp .add t x y ty) (hx : fr.ev x = some (.int .i64 a)) (hy : fr.ev y = some (.int .i64 b)) (h : -9223372036854775808 ≤ a + b ∧ a + b ≤ 9223372036854775807) : PStep P fr o (.int .i64 (a + b)) :=
 P_bin' ho hx hy rfl (fun h => absurd h (by decide)) (by show Value.int _ _ = _; rw [i64_in _ h])
theorem P_sub_i {a b : Int} (ho : o.op = .binOp .sub t x y ty) (hx : fr.ev x = some (.int .i64 a)) (hy : fr.ev y = some (.int .i64 b)) (h : -9223372036854775808 ≤ a - b ∧ a - b ≤ 9223372036854775807) : PStep P fr o (.int .i64 (a - b)) :=
 P_bin' ho hx hy rfl (fun h => absurd h (by decide)) (by show Value.int _ _ = _; rw [i64_in _ h])
theorem P_mul_i {a b : Int} (ho : o.op = .binOp .mul t x y ty) (hx : fr.ev x = some (.int .i64 a)) (hy : fr.ev y = some (.int .i64 b)) (h : -9223372036854775808 ≤ a * b ∧ a * b ≤ 9223372036854775807) : PStep P fr o (.int .i64 (a * b)) :=
 P_bin' ho hx hy rfl (fun h => absurd h (by decide)) (by show Value.int _ _ = _; rw [i64_in _ h])
theorem P_quo_i {a b : Int} (ho : o.op = .binOp .quo t x y ty) (hx : fr.ev x = some (.int .i64 a)) (hy : fr.ev y = some (.int .i64 b)) (h0 : 0 ≤ a) (ha : a ≤ 9223372036854775807) (hb : 0 < b) : PStep P fr o (.int .i64 (a / b)) :=
 P_bin' ho hx hy rfl (fun _ => by omega) (by
  show Value.int _ _ = _
  rw [Int.tdiv_eq_ediv_of_nonneg h0, i64_in _ ⟨by have := Int.ediv_nonneg h0 (Int.le_of_lt hb); omega, by have := Int.ediv_le_self b h0; omega⟩])
theorem P_rem_i {a b : Int} (ho : o.op = .binOp .rem t x y ty) (hx : fr.ev x = some (.int .i64 a)) (hy : fr.ev y = some (.int .i64 b)) (h0 : 0 ≤ a) (hb : 0 < b) : PStep P fr o (.int .i64 (a % b)) :=
 P_bin' ho hx hy rfl (fun _ => by omega) (by show Value.int _ _ = _; rw [Int.tmod_eq_emod_of_nonneg h0])
theorem P_cmp {op : BinOp} {k : IntKind} {a b : Int} {r : Bool} (ho : o.op = .binOp op t x y ty) (hx : fr.ev x = some (.int k a)) (hy : fr.ev y = some (.int k b)) (hr : intop op k a b = .bool r) (h : isIntop op = true) (hd : isDiv op = false) :
  PStep P fr o (.bool r) := P_bin' ho hx hy h (fun h => by rw [hd] at h; cases h) hr

/-! words -/
section words
variable {k : IntKind} {n : Nat} {a b : BitVec n}
theorem P_add_w (hk : UK k n) (ho : o.op = .binOp .add t x y ty) (hx : fr.ev x = some (.int k (a.toNat : Int))) (hy : fr.ev y = some (.int k (b.toNat : Int))) : PStep P fr o (.int k ((a + b).toNat : Int)) :=
 P_bin' ho hx hy rfl (fun h => absurd h (by decide)) (by show Value.int _ _ = _; rw [hk.add])
theorem P_sub_w (hk : UK k n) (ho : o.op = .binOp .sub t x y ty) (hx : fr.ev x = some (.int k (a.toNat : Int))) (hy : fr.ev y = some (.int k (b.toNat : Int))) : PStep P fr o (.int k ((a - b).toNat : Int)) :=
 P_bin' ho hx hy rfl (fun h => absurd h (by decide)) (by show Value.int _ _ = _; rw [hk.sub])
theorem P_mul_w (hk : UK k n) (ho : o.op = .binOp .mul t x y ty) (hx : fr.ev x = some (.int k (a.toNat : Int))) (hy : fr.ev y = some (.int k (b.toNat : Int))) : PStep P fr o (.int k ((a * b).toNat : Int)) :=
 P_bin' ho hx hy rfl (fun h => absurd h (by decide)) (by show Value.int _ _ = _; rw [hk.mul])
theorem P_rem_w (hk : UK k n) (ho : o.op = .binOp .rem t x y ty) (hx : fr.ev x = some (.int k (a.toNat : Int))) (hy : fr.ev y = some (.int k (b.toNat : Int))) (hb : b ≠ 0) : PStep P fr o (.int k ((a % b).toNat : Int)) := by
 have hb' : b.toNat ≠ 0 := fun h => hb (by apply BitVec.eq_of_toNat_eq; simpa using h)
 refine P_bin' ho hx hy rfl (fun _ => by omega) ?_
 show Value.int _ _ = _
 rw [Int.tmod_eq_emod_of_nonneg (by omega), ← Int.natCast_emod, ← BitVec.toNat_umod]
theorem P_and_w (hk : UK k n) (ho : o.op = .binOp .and t x y ty) (hx : fr.ev x = some (.int k (a.toNat : Int))) (hy : fr.ev y = some (.int k (b.toNat : Int))) : PStep P fr o (.int k ((a &&& b).toNat : Int)) := by
 refine P_bin' ho hx hy rfl (fun h => absurd h (by decide)) ?_
 cases hk <;> (simp only [intop, IntKind.bits, BitVec.ofInt_natCast, BitVec.ofNat_toNat, BitVec.setWidth_eq]; first | rw [UK.u8.wrap_bv] | rw [UK.u16.wrap_bv] | rw [UK.u32.wrap_bv] | rw [UK.u64.wrap_bv]) <;> rfl
theorem P_or_w (hk : UK k n) (ho : o.op = .binOp .or t x y ty) (hx : fr.ev x = some (.int k (a.toNat : Int))) (hy : fr.ev y = some (.int k (b.toNat : Int))) : PStep P fr o (.int k ((a ||| b).toNat : Int)) := by
 refine P_bin' ho hx hy rfl (fun h => absurd h (by decide)) ?_
 cases hk <;> (simp only [intop, IntKind.bits, BitVec.ofInt_natCast, BitVec.ofNat_toNat, BitVec.setWidth_eq]; first | rw [UK.u8.wrap_bv] | rw [UK.u16.wrap_bv] | rw [UK.u32.wrap_bv] | rw [UK.u64.wrap_bv]) <;> rfl
theorem P_xor_w (hk : UK k n) (ho : o.op = .binOp .xor t x y ty) (hx : fr.ev x = some (.int k (a.toNat : Int))) (hy : fr.ev y = some (.int k (b.toNat : Int))) : PStep P fr o (.int k ((a ^^^ b).toNat : Int)) := by
 refine P_bin' ho hx hy rfl (fun h => absurd h (by decide)) ?_
 cases hk <;> (simp only [intop, IntKind.bits, BitVec.ofInt_natCast, BitVec.ofNat_toNat, BitVec.setWidth_eq]; first | rw [UK.u8.wrap_bv] | rw [UK.u16.wrap_bv] | rw [UK.u32.wrap_bv] | rw [UK.u64.wrap_bv]) <;> rfl
theorem bv_beq (a b : BitVec n) : ((a.toNat : Int) == (b.toNat : Int)) = (a == b) := by
 rw [Bool.eq_iff_iff]
 simp only [beq_iff_eq]
 exact ⟨fun h => BitVec.eq_of_toNat_eq (by omega), fun h => by rw [h]⟩
theorem P_eql_w (ho : o.op = .binOp .eql t x y ty) (hx : fr.ev x = some (.int k (a.toNat : Int))) (hy : fr.ev y = some (.int k (b.toNat : Int))) : PStep P fr o (.bool (a == b)) :=
 P_bin' ho hx hy rfl (fun h => absurd h (by decide)) (by show Value.bool _ = _; rw [bv_beq])
theorem P_lss_w (ho : o.op = .binOp .lss t x y ty) (hx : fr.ev x = some (.int k (a.toNat : Int))) (hy : fr.ev y = some (.int k (b.toNat : Int))) : PStep P fr o (.bool (decide (a.toNat < b.toNat))) :=
 P_bin' ho hx hy rfl (fun h => absurd h (by decide)) (by show Value.bool _ = _; congr 1; rw [decide_eq_decide]; omega)
end words

theorem run_shift (op : BinOp) (k k' : IntKind) (a b : Int) (t : TypeId) (hs : isShift op = true) (hb : 0 ≤ b) (w : World) :
  (binOp op t (.int k a) (.int k' b)).run P w = .ok (.int k (shop op k a b)) w := by
 cases op <;> simp [isShift] at hs <;> simp [shop, binOp, Op.shift, show ¬ b < 0 by omega]
theorem P_shift {op : BinOp} {k k' : IntKind} {a b : Int} {r : Int} (ho : o.op = .binOp op t x y ty) (hx : fr.ev x = some (.int k a)) (hy : fr.ev y = some (.int k' b)) (hs : isShift op = true) (hb : 0 ≤ b)
  (hr : shop op k a b = r) : PStep P fr o (.int k r) := by
 intro A hA w
 have h1 := run_shift (P := P) op k k' a b t hs hb w
 rw [hr] at h1
 unfold execOp
 simp [ho, hA.ev hx, hA.ev hy, eqGuard, h1]
theorem min_shl {n : Nat} (a : BitVec n) (s : Nat) : (a.toNat * 2 ^ (min s n)) % 2 ^ n = (a <<< s).toNat := by
 rw [BitVec.toNat_shiftLeft, Nat.shiftLeft_eq]
 by_cases h : s ≤ n
 · rw [Nat.min_eq_left h]
 ·
  rw [Nat.min_eq_right (by omega)]
  have h1 : 2 ^ s = 2 ^ n * 2 ^ (s - n) := by rw [← Nat.pow_add]; congr 1; omega
  rw [h1, Nat.mul_left_comm, Nat.mul_mod_right, Nat.mul_mod_left]
theorem min_shr {n : Nat} (a : BitVec n) (s : Nat) : a.toNat / 2 ^ (min s n) = (a >>> s).toNat := by
 rw [BitVec.toNat_ushiftRight, Nat.shiftRight_eq_div_pow]
 by_cases h : s ≤ n
 · rw [Nat.min_eq_left h]
 · rw [Nat.min_eq_right (by omega), Nat.div_eq_of_lt a.isLt, Nat.div_eq_of_lt (Nat.lt_of_lt_of_le a.isLt (Nat.pow_le_pow_right (by decide) (by omega)))]
theorem P_shl_w {k k' : IntKind} {n : Nat} {a : BitVec n} {b : Int} (hk : UK k n) (ho : o.op = .binOp .shl t x y ty) (hx : fr.ev x = some (.int k (a.toNat : Int))) (hy : fr.ev y = some (.int k' b)) (hb : 0 ≤ b) : PStep P fr o (.int k ((a <<< b.toNat).toNat : Int)) :=
 P_shift ho hx hy rfl hb (by
  dsimp only [shop]
  rw [hk.bits, show ((2 : Int) ^ (min b.toNat n)) = ((2 ^ (min b.toNat n) : Nat) : Int) by simp, ← Int.natCast_mul, hk.wrap_nat, min_shl])
theorem P_shr_w {k k' : IntKind} {n : Nat} {a : BitVec n} {b : Int} (hk : UK k n) (ho : o.op = .binOp .shr t x y ty) (hx : fr.ev x = some (.int k (a.toNat : Int))) (hy : fr.ev y = some (.int k' b)) (hb : 0 ≤ b) : PStep P fr o (.int k ((a >>> b.toNat).toNat : Int)) :=
 P_shift ho hx hy rfl hb (by
  dsimp only [shop]
  rw [hk.bits, show ((2 : Int) ^ (min b.toNat n)) = ((2 ^ (min b.toNat n) : Nat) : Int) by simp, Int.fdiv_eq_ediv_of_nonneg _ (Int.natCast_nonneg _), ← Int.natCast_ediv, min_shr])
theorem P_shr_i {k' : IntKind} {a b : Int} (ho : o.op = .binOp .shr t x y ty) (hx : fr.ev x = some (.int .i64 a)) (hy : fr.ev y = some (.int k' b)) (hb : 0 ≤ b) (hb' : b ≤ 64) : PStep P fr o (.int .i64 (a / 2 ^ b.toNat)) :=
 P_shift ho hx hy rfl hb (by
  dsimp only [shop]
  rw [show min b.toNat IntKind.i64.bits = b.toNat by show min _ 64 = _; omega, Int.fdiv_eq_ediv_of_nonneg _ (Int.le_of_lt (Int.pow_pos (by decide)))])
theorem P_shl_i {k' : IntKind} {a b : Int} (ho : o.op = .binOp .shl t x y ty) (hx : fr.ev x = some (.int .i64 a)) (hy : fr.ev y = some (.int k' b)) (hb : 0 ≤ b) (hb' : b ≤ 64) (h : -9223372036854775808 ≤ a * 2 ^ b.toNat ∧ a * 2 ^ b.toNat ≤ 9223372036854775807) : PStep P fr o (.int .i64 (a * 2 ^ b.toNat)) :=
 P_shift ho hx hy rfl hb (by
  dsimp only [shop]
  rw [show min b.toNat IntKind.i64.bits = b.toNat by show min _ 64 = _; omega, i64_in _ h])

theorem P_not {b : Bool} (ho : o.op = .unOp .not t x) (hx : fr.ev x = some (.bool b)) : PStep P fr o (.bool !b) := by
 intro A hA w
 unfold execOp
 simp [ho, hA.ev hx, Op.unary]
theorem P_neg_i {a : Int} (ho : o.op = .unOp .neg t x) (hx : fr.ev x = some (.int .i64 a)) (h : -9223372036854775807 ≤ a ∧ a ≤ 9223372036854775807) : PStep P fr o (.int .i64 (-a)) := by
 intro A hA w
 unfold execOp
 simp [ho, hA.ev hx, Op.unary, Op.intArith]
 rw [i64_in _ (by omega)]
theorem P_compl_w {k : IntKind} {n : Nat} {a : BitVec n} (hk : UK k n) (ho : o.op = .unOp .xor t x) (hx : fr.ev x = some (.int k (a.toNat : Int))) : PStep P fr o (.int k ((~~~ a).toNat : Int)) := by
 intro A hA w
 have key : k.wrap ((BitVec.ofInt k.bits (if k.signed = true then -1 else k.max) ^^^ BitVec.ofInt k.bits (a.toNat : Int)).toNat : Int) = ((~~~ a).toNat : Int) := by
  cases hk
  ·
   show IntKind.u8.wrap ((BitVec.ofInt 8 255 ^^^ BitVec.ofInt 8 (a.toNat : Int)).toNat : Int) = _
   rw [show BitVec.ofInt 8 255 = BitVec.allOnes 8 by decide, BitVec.ofInt_natCast, BitVec.ofNat_toNat, BitVec.setWidth_eq, BitVec.allOnes_xor, UK.u8.wrap_bv]
  ·
   show IntKind.u16.wrap ((BitVec.ofInt 16 65535 ^^^ BitVec.ofInt 16 (a.toNat : Int)).toNat : Int) = _
   rw [show BitVec.ofInt 16 65535 = BitVec.allOnes 16 by decide, BitVec.ofInt_natCast, BitVec.ofNat_toNat, BitVec.setWidth_eq, BitVec.allOnes_xor, UK.u16.wrap_bv]
  ·
   show IntKind.u32.wrap ((BitVec.ofInt 32 4294967295 ^^^ BitVec.ofInt 32 (a.toNat : Int)).toNat : Int) = _
   rw [show BitVec.ofInt 32 4294967295 = BitVec.allOnes 32 by decide, BitVec.ofInt_natCast, BitVec.ofNat_toNat, BitVec.setWidth_eq, BitVec.allOnes_xor, UK.u32.wrap_bv]
  ·
   show IntKind.u64.wrap ((BitVec.ofInt 64 18446744073709551615 ^^^ BitVec.ofInt 64 (a.toNat : Int)).toNat : Int) = _
   rw [show BitVec.ofInt 64 18446744073709551615 = BitVec.allOnes 64 by decide, BitVec.ofInt_natCast, BitVec.ofNat_toNat, BitVec.setWidth_eq, BitVec.allOnes_xor, UK.u64.wrap_bv]
 unfold execOp
 simp only [ho, hA.ev hx, Op.unary, Op.intBits, Sem.run_bind, Sem.run_pure, Result.andThen_ok]
 rw [key]

/-! conversions -/
theorem P_conv {s d : TypeId} {k k' : IntKind} {a : Int} {r : Int} (ho : o.op = .convert s d x) (hs : P.underlying s = some (.int k')) (hd : P.underlying d = some (.int k)) (hx : fr.ev x = some (.int k' a)) (hr : k.wrap a = r) : PStep P fr o (.int k r) := by
 intro A hA w
 unfold execOp
 simp [ho, hA.ev hx, convert, run_underlying hs, run_underlying hd, Conv.intToInt, hr]
theorem P_conv_ww {s d : TypeId} {k k' : IntKind} {n m : Nat} {a : BitVec m} (hk : UK k n) (ho : o.op = .convert s d x) (hs : P.underlying s = some (.int k')) (hd : P.underlying d = some (.int k)) (hx : fr.ev x = some (.int k' (a.toNat : Int))) : PStep P fr o (.int k ((a.setWidth n).toNat : Int)) :=
 P_conv ho hs hd hx (by rw [hk.wrap_nat, BitVec.toNat_setWidth])
theorem P_conv_iw {s d : TypeId} {k k' : IntKind} {n : Nat} {a : Int} (hk : UK k n) (ho : o.op = .convert s d x) (hs : P.underlying s = some (.int k')) (hd : P.underlying d = some (.int k)) (hx : fr.ev x = some (.int k' a)) : PStep P fr o (.int k ((BitVec.ofInt n a).toNat : Int)) :=
 P_conv ho hs hd hx (hk.ofInt a)
theorem P_conv_wi {s d : TypeId} {k : IntKind} {n : Nat} {a : BitVec n} (hk : UK k n) (hn : n ≤ 32) (ho : o.op = .convert s d x) (hs : P.underlying s = some (.int k)) (hd : P.underlying d = some (.int .i64)) (hx : fr.ev x = some (.int k (a.toNat : Int))) : PStep P fr o (.int .i64 (a.toNat : Int)) :=
 P_conv ho hs hd hx (i64_of_small hk hn a)
/-! the rest -/
theorem P_move (ho : o.op = .move x) (hx : fr.ev x = some v) : PStep P fr o v := by
 intro A hA w; unfold execOp; simp [ho, hA.ev hx]
theorem P_assign (ho : o.op = .assign x) (hx : fr.ev x = some v) : PStep P fr o v := by
 intro A hA w; unfold execOp; simp [ho, hA.ev hx]
theorem P_pick_t {c p q : Operand} {b : Bool} (ho : o.op = .pick c p q) (hc : fr.ev c = some (.bool b)) (hb : b = true) (hx : fr.ev p = some v) : PStep P fr o v := by
 intro A hA w; unfold execOp; subst hb; simp [ho, hA.ev hx, hA.ev hc, asBool]
theorem P_pick_f {c p q : Operand} {b : Bool} (ho : o.op = .pick c p q) (hc : fr.ev c = some (.bool b)) (hb : b = false) (hx : fr.ev q = some v) : PStep P fr o v := by
 intro A hA w; unfold execOp; subst hb; simp [ho, hA.ev hx, hA.ev hc, asBool]
theorem P_extract {vs : Array Value} {i : Nat} (ho : o.op = .extract x i) (hx : fr.ev x = some (.tuple vs)) (hv : vs[i]? = some v) : PStep P fr o v := by
 intro A hA w; unfold execOp; simp [ho, hA.ev hx, Instr.extract, hv]
theorem P_nilCheck {p : Addr} (ho : o.op = .nilCheck x) (hx : fr.ev x = some (.pointer (some p))) : PStep P fr o (.pointer (some p)) := by
 intro A hA w; unfold execOp; simp [ho, hA.ev hx]
theorem add_addr (b o n : Nat) : Addr.add ⟨b, o, none⟩ n = ⟨b, o + n, none⟩ := by
 unfold Addr.add; split
 · subst_vars; rfl
 · rfl
theorem P_fieldAddr {s : TypeId} {i b m : Nat} {fs : Array Field} {f : Field} {sz off : Nat} (ho : o.op = .fieldAddr s x i) (hs : P.underlying s = some (.struct fs)) (hf : fs[i]? = some f) (hz : tsz P f.type = some (sz + 1)) (hk : f.offset = off)
  (hx : fr.ev x = some (.pointer (some ⟨b, m, none⟩))) : PStep P fr o (.pointer (some ⟨b, m + off, none⟩)) := by
 intro A hA w; unfold execOp
 obtain ⟨i0, hi0, hi1⟩ := Option.map_eq_some_iff.1 (show (P.info? f.type).map (·.size) = _ from hz)
 simp [ho, hA.ev hx, Instr.fieldAt, run_underlying hs, hf, Instr.sureAddr, fieldPlace, sizeOf, typeInfo, hi0, hi1, add_addr, hk]
theorem P_fieldAddr0 {s : TypeId} {i b : Nat} {fs : Array Field} {f : Field} {sz off : Nat} (ho : o.op = .fieldAddr s x i) (hs : P.underlying s = some (.struct fs)) (hf : fs[i]? = some f) (hz : tsz P f.type = some (sz + 1)) (hk : f.offset = off)
  (hx : fr.ev x = some (.pointer (some ⟨b, 0, none⟩))) : PStep P fr o (.pointer (some ⟨b, off, none⟩)) := by
 have h := P_fieldAddr (P := P) ho hs hf hz hk hx
 rwa [Nat.zero_add] at h
theorem P_indexAddr_arr {t e : TypeId} {b m len sz j : Nat} {k : IntKind} {i : Int} {ix : Operand} (ho : o.op = .indexAddr t x ix) (ht : P.underlying t = some (.array len e)) (hz : tsz P e = some sz)
  (hx : fr.ev x = some (.pointer (some ⟨b, m, none⟩))) (hi : fr.ev ix = some (.int k i)) (hj : i = (j : Int)) (hlt : j < len) : PStep P fr o (.pointer (some ⟨b, m + j * sz, none⟩)) := by
 intro A hA w; unfold execOp
 obtain ⟨i0, hi0, hi1⟩ := Option.map_eq_some_iff.1 (show (P.info? e).map (·.size) = _ from hz)
 subst hj
 have h2 : (0 : Int) ≤ (j : Int) ∧ (j : Int) < (len : Int) := by omega
 simp [ho, hA.ev hx, hA.ev hi, Instr.indexAt, run_underlying ht, asIntOf, Instr.sureAddr, sizeOf, typeInfo, hi0, hi1, add_addr, hlt]
theorem P_indexAddr_arr1 {t e : TypeId} {b len j : Nat} {k : IntKind} {i : Int} {ix : Operand} (ho : o.op = .indexAddr t x ix) (ht : P.underlying t = some (.array len e)) (hz : tsz P e = some 1)
  (hx : fr.ev x = some (.pointer (some ⟨b, 0, none⟩))) (hi : fr.ev ix = some (.int k i)) (hj : i = (j : Int)) (hlt : j < len) : PStep P fr o (.pointer (some ⟨b, j, none⟩)) := by
 have h := P_indexAddr_arr (P := P) ho ht hz hx hi hj hlt
 rwa [Nat.zero_add, Nat.mul_one] at h
theorem P_indexAddr_sl {t e : TypeId} {b m len cap sz j : Nat} {A : Option Addr} {k : IntKind} {i : Int} {ix : Operand} (ho : o.op = .indexAddr t x ix) (ht : P.underlying t = some (.slice e)) (hz : tsz P e = some sz)
  (hx : fr.ev x = some (.slice A len cap)) (hA : A = some ⟨b, m, none⟩) (hi : fr.ev ix = some (.int k i)) (hj : i = (j : Int)) (hlt : j < len) : PStep P fr o (.pointer (some ⟨b, m + j * sz, none⟩)) := by
 intro a ha w; unfold execOp
 obtain ⟨i0, hi0, hi1⟩ := Option.map_eq_some_iff.1 (show (P.info? e).map (·.size) = _ from hz)
 subst hj hA
 have h2 : (0 : Int) ≤ (j : Int) ∧ (j : Int) < (len : Int) := by omega
 simp [ho, ha.ev hx, ha.ev hi, Instr.indexAt, run_underlying ht, asIntOf, Instr.sureAddr, sizeOf, typeInfo, hi0, hi1, add_addr, hlt]
theorem P_indexAddr_sl1 {t e : TypeId} {b m len cap j : Nat} {A : Option Addr} {k : IntKind} {i : Int} {ix : Operand} (ho : o.op = .indexAddr t x ix) (ht : P.underlying t = some (.slice e)) (hz : tsz P e = some 1)
  (hx : fr.ev x = some (.slice A len cap)) (hA : A = some ⟨b, m, none⟩) (hi : fr.ev ix = some (.int k i)) (hj : i = (j : Int)) (hlt : j < len) : PStep P fr o (.pointer (some ⟨b, m + j, none⟩)) := by
 have h := P_indexAddr_sl (P := P) ho ht hz hx hA hi hj hlt
 rwa [Nat.mul_one] at h
theorem P_len_sl {A : Option Addr} {len cap : Nat} {c : Call} (ho : o.op = .call c) (hc : c = ⟨.builtin .len, #[x], #[t]⟩) (ht : ∃ e, P.underlying t = some (.slice e)) (hx : fr.ev x = some (.slice A len cap)) : PStep P fr o (.int .i64 (len : Int)) := by
 intro a ha w; unfold execOp
 obtain ⟨e, ht⟩ := ht
 simp [ho, hc, ha.ev hx, resolve, invoke, builtin, Builtin.len_, run_underlying ht, goInt]
theorem P_min2 {k : IntKind} {p q : Int} {c : Call} {ts : Array TypeId} (ho : o.op = .call c) (hc : c = ⟨.builtin .min, #[x, y], ts⟩) (hx : fr.ev x = some (.int k p)) (hy : fr.ev y = some (.int k q)) : PStep P fr o (.int k (min p q)) := by
 intro a ha w; unfold execOp
 have : (if q < p then q else p) = min p q := by omega
 simp [ho, hc, ha.ev hx, ha.ev hy, resolve, invoke, builtin, Builtin.min_, Builtin.min2, this]
/-- An array's value at a place: one cell. -/
theorem P_index_arr {t e : TypeId} {len j : Nat} {cs : Array Value} {k : IntKind} {i : Int} {ix : Operand} {D : TypeDesc} (ho : o.op = .index t x ix) (ht : P.underlying t = some (.array len e)) (hz : tsz P e = some 1) (hD : P.underlying e = some D) (hd : ∀ fs, D ≠ .struct fs) (hd' : ∀ n e', D ≠ .array n e')
  (hx : fr.ev x = some (.agg cs)) (hi : fr.ev ix = some (.int k i)) (hj : i = (j : Int)) (hlt : j < len) (hv : cs[j]? = some v) : PStep P fr o v := by
 intro a ha w; unfold execOp
 obtain ⟨i0, hi0, hi1⟩ := Option.map_eq_some_iff.1 (show (P.info? e).map (·.size) = _ from hz)
 subst hj
 have hag : (isAgg e).run P w = .ok false w := by
  unfold isAgg
  rw [Sem.run_bind, run_underlying hD, Result.andThen_ok]
  cases D <;> first | rfl | exact absurd rfl (hd _) | exact absurd rfl (hd' _ _)
 simp [ho, ha.ev hx, ha.ev hi, Instr.index, run_underlying ht, asIntOf, sizeOf, typeInfo, hi0, hi1, hlt, part, hag, hv]
end
end SE
end Go


/-
 A region that draws its order, walked once: quiet operations as soon as they may come up, then the one operation that acts; new variables whose addresses nobody in the region's head asks for come last.
-/
namespace Go
namespace RG
open Go.RowKit

/-- w' is w with new blocks. -/
abbrev Ext (w w' : World) : Prop := Below w.heap.size w w'
theorem Ext.refl (w : World) : Ext w w := Below.refl _ _
theorem Ext.trans {a b c : World} (h : Ext a b) (k : Ext b c) : Ext a c := Below.trans h (k.mono h.size)

/-- The worlds that are w with new blocks. -/
structure ExtOf (w : World) where
 val : World
 ext : Ext w val
instance (w : World) : Nonempty (ExtOf w) := ⟨⟨w, Ext.refl w⟩⟩
@[go_sem] theorem ExtOf.cell? {w : World} (y : ExtOf w) (b o : Nat) (h : b < w.heap.size) : y.val.cell? ⟨b, o, none⟩ = w.cell? ⟨b, o, none⟩ := y.ext.cell (p := ⟨b, o, none⟩) h
@[go_sem] theorem ExtOf.frozen? {w : World} (y : ExtOf w) (b o : Nat) (h : b < w.heap.size) : y.val.frozen? ⟨b, o, none⟩ = w.frozen? ⟨b, o, none⟩ := y.ext.frozen (p := ⟨b, o, none⟩) h
/-- What quiet operations may make of the world: nothing; or new blocks. -/
abbrev ClE (w x : World) : Prop := x = w
abbrev ClX (w x : World) : Prop := ∃ y : ExtOf w, x = y.val
theorem ClX.ext {w x : World} (h : ClX w x) : Ext w x := by obtain ⟨y, rfl⟩ := h; exact y.ext
theorem ClX.mk {w x : World} (h : Ext w x) : ClX w x := ⟨⟨x, h⟩, rfl⟩
/-- A step of the walk: quiet operations ('true': they yield in whatever world), or one that acts ('true': it may write what was there). -/
inductive Seg where
 | q (strong : Bool) (is : List Nat)
 | e (any : Bool) (j : Nat)

def pick (l : List Oper) (is : List Nat) : List Oper := is.map fun i => l.getD i default

section
variable {P : Program} {l : List Oper} {Q : Exit → Act → World → Prop} {md : Region.Mode}

/-- What is asked behind an operation that acts. -/
def effQ (Q : Exit → Act → World → Prop) (any : Bool) (w : World) (K : Act → World → Prop) : Exit → Act → World → Prop
 | .normal, a, w' => (any = false → Ext w w') ∧ K a w'
 | .outgrown, a, w' => Q .outgrown a w'
 | _, _, _ => False

/-- The walk in its one order. R: what others may have done ahead of an operation that acts. -/
def W (P : Program) (l : List Oper) (Q : Exit → Act → World → Prop) (R Cl : World → World → Prop) (F : Act → World → Prop) : List Seg → Act → World → Prop
 | [], a, w => F a w
 | .q s is :: rest, a, w => ∃ A, (∀ w', (s = true ∨ Ext w w') → wpQuiet P l.toArray (Cl w') (fun a' => a' = A) (pick l is) a) ∧ W P l Q R Cl F rest A w
 | .e any j :: rest, a, w => ∀ w', R w w' → wpList P l.toArray (effQ Q any w' (W P l Q R Cl F rest)) (pick l [j]) a w'

end

section
variable {P : Program} {ops : Array Oper} {Q : Exit → Act → World → Prop} {md : Region.Mode}

/-- No panic. -/
def QX (Q : Exit → Act → World → Prop) : Exit → Act → World → Prop
 | .panic _, _, _ => False
 | e, a, w => Q e a w

theorem wp_monoQ {o : Oper} {a : Act} {w : World} {K K' : Act → World → Prop} {Q Q' : Exit → Act → World → Prop} (hK : ∀ a w, K a w → K' a w)
  (hp : ∀ c a w, Q (.panic c) a w → Q' (.panic c) a w) (ho : LetsOut Q → LetsOut Q') (h : o.wp P a w K Q) : o.wp P a w K' Q' := by
 unfold Oper.wp at *
 generalize (execOp a.eval o).run P w = r at *
 cases r with
 | ok n w' =>
  cases n <;> simp only [Oper.upon] at h ⊢ <;>
   first
    | exact hK _ _ h
    | exact Calls.mono h (fun e w'' he => by cases e <;> first | exact hK _ _ he | exact hp _ _ _ he | exact ho he)
    | exact Rows.mono h (fun _ _ he => hK _ _ he)
 | halt x w' => cases x <;> simp only [Oper.upon] at h ⊢ <;> exact hp _ _ _ h

theorem wpOp_monoQ {i : Nat} {a : Act} {w : World} {K K' : Act → World → Prop} {Q Q' : Exit → Act → World → Prop} (hK : ∀ a w, K a w → K' a w)
  (hp : ∀ c a w, Q (.panic c) a w → Q' (.panic c) a w) (ho : LetsOut Q → LetsOut Q') (h : wpOp P ops Q i K a w) : wpOp P ops Q' i K' a w := by
 unfold wpOp at *
 split
 · rename_i hn; simp only [hn] at h; exact hK _ _ h
 ·
  rename_i o hs
  simp only [hs] at h
  split
  ·
   rename_i hw
   simp only [hw, if_true] at h
   rcases h with h | ⟨ha, hl⟩
   · exact .inl (wp_monoQ hK hp ho h)
   · exact .inr ⟨ha, ho hl⟩
  · rename_i hw; simp only [hw] at h; exact hK _ _ h

/-- An operation past the value of another one, from which it is apart. -/
theorem wpOp_past {j : Nat} {oi oj : Oper} {v : Value} (hj : ops[j]? = some oj) (hap : oi.apart ops oj = true)
  (hsj : ∀ cs b, oj.op ≠ .select cs b) (hQ : ∀ c a w, Q (.panic c) a w → False) {K : Act → World → Prop} {Y : Act → Prop} {a : Act} {w : World}
  (hY : Y a) (hYp : ∀ a u, Y a → Y (a.put oj.dst u)) (hYd : ∀ (a : Act) d, Y a → Y { a with defers := d :: a.defers })
  (h : wpOp P ops Q j K (a.put oi.dst v) w) :
  wpOp P ops Q j (fun a' w' => Y a' ∧ K (a'.put oi.dst v) w') a w := by
 obtain ⟨h1, h2, h3⟩ := Oper.apart_spec hap
 unfold wpOp at *
 simp only [hj] at *
 rw [wanted_put oj a oi.dst v h1] at h
 split
 ·
  rename_i hw
  simp only [hw, if_true] at h
  rcases h with h | ⟨hasks, hlets⟩
  case inr => exact .inr ⟨by unfold Oper.asks at *; rw [execOp_put oj hsj a oi.dst v h1] at hasks; exact hasks, hlets⟩
  refine .inl ?_
  unfold Oper.wp at *
  rw [execOp_put oj hsj a oi.dst v h1] at h
  generalize (execOp a.eval oj).run P w = r at *
  cases r with
  | ok n w' =>
   cases n <;> simp only [Oper.upon] at h ⊢
   case value u => exact ⟨hYp a u hY, by rw [← Act.put_comm a v u h2]; exact h⟩
   case skip => exact ⟨hYp a _ hY, by rw [← Act.put_comm a v undef h2]; exact h⟩
   case defer d =>
    refine ⟨hYp _ _ (hYd _ d hY), ?_⟩
    rw [← Act.put_comm _ v undef h2, ← Act.put_defers]
    exact h
   case enter f args =>
    refine Calls.mono h fun e w'' he => ?_
    cases e with
    | returned u => exact ⟨hYp a u hY, by rw [← Act.put_comm a v u h2]; exact he⟩
    | panicked c => exact (hQ _ _ _ he).elim
    | outgrown => exact he
   case row row args => exact Rows.mono h fun u w'' he => ⟨hYp a u hY, by rw [← Act.put_comm a v u h2]; exact he⟩
  | halt x w' =>
   cases x <;> simp only [Oper.upon] at h ⊢
   case panic u => exact (hQ _ _ _ h).elim
 ·
  rename_i hw
  simp only [hw] at h
  exact ⟨hYp a _ hY, by rw [← Act.put_comm a v undef h2]; exact h⟩

/-- The head of a region in whatever order, others stepping between; behind it 'L'. -/
def wpAnyE (P : Program) (md : Region.Mode) (ops : Array Oper) (Q : Exit → Act → World → Prop) (R : World → World → Prop) (anyf : Nat → Bool) (n : Nat) (L : Array Bool → Act → World → Prop) :
  Nat → Array Bool → Act → World → Prop
 | 0, listed, a, w => L listed a w
 | f + 1, listed, a, w =>
  Region.ready md ops listed ≠ [] ∧ ∀ w', R w w' → ∀ i ∈ Region.ready md ops listed, i < n ∧
   wpOp P ops (QX Q) i (fun a' w'' => (anyf i = false → Ext w' w'') ∧ wpAnyE P md ops Q R anyf n L f (listed.setIfInBounds i true) a' w'') a w'

variable {R Cl : World → World → Prop} {anyf : Nat → Bool} {n : Nat} {L : Array Bool → Act → World → Prop}

theorem wpAnyE_closed (hRt : ∀ a b c, R a b → R b c → R a c) (hL : ∀ listed a w w', L listed a w → R w w' → L listed a w') :
  ∀ (f : Nat) (listed : Array Bool) (a : Act) (w w' : World), wpAnyE P md ops Q R anyf n L f listed a w → R w w' → wpAnyE P md ops Q R anyf n L f listed a w'
 | 0, _, _, _, _, h, hr => hL _ _ _ _ h hr
 | _ + 1, _, _, _, _, h, hr => ⟨h.1, fun w2 h2 => h.2 w2 (hRt _ _ _ hr h2)⟩

theorem YieldsIn.wpOp' {i : Nat} {o : Oper} {v : Value} {a : Act} {w : World} {C : World → Prop} (hi : ops[i]? = some o) (hC : C w) (hy : YieldsIn P ops C o v a)
  {K : Act → World → Prop} (h : ∀ w', C w' → K (a.put o.dst v) w') : wpOp P ops Q i K a w :=
 wpOp_of_qOp (K := fun a' => a' = a.put o.dst v) hC (fun a' w' hw' ha => by rw [ha]; exact h w' hw') (hy.qOp hi rfl)

theorem wpAnyE_first {i : Nat} {oi : Oper} {v : Value} {s : Bool} (hi : ops[i]? = some oi) (hsel : ∀ (j : Nat) (o : Oper) cs b, ops[j]? = some o → o.op ≠ .select cs b)
  (hw : ∀ listed, HeadInv md ops n listed → ∀ i, i < n → i ∈ Region.ready md ops listed → ∀ j ∈ Region.ready md ops listed, j < n) (hin : i < n)
  (hRt : ∀ a b c, R a b → R b c → R a c) (hRE : ∀ a b, R a b → Ext a b)
  (hCr : ∀ w, Cl w w) (hCR : ∀ w x, Cl w x → R w x)
  (hL : ∀ listed a w w', L listed a w → R w w' → L listed a w')
  (hdone : ∀ listed a w, L listed a w → ∀ j ∈ Region.ready md ops listed, n ≤ j)
  (hany : s = false → anyf i = false) :
  ∀ (f : Nat) (listed : Array Bool) (a : Act) (w : World), HeadInv md ops n listed → (s = false → ∀ j, anyf j = true → listed.getD j true = true ∨ Region.waitsFor md ops j i = true) →
   (∀ j oj, ops[j]? = some oj → j ≠ i → listed.getD j true = false → (∀ e ∈ oj.after, Region.binds md e = true → e.on ≠ i) → oi.apart ops oj = true) →
   i ∈ Region.ready md ops listed →
   (∀ w', (s = true ∨ Ext w w') → ∃ v', YieldsIn P ops (Cl w') oi v' a ∧ a.put oi.dst v' = a.put oi.dst v) →
   wpAnyE P md ops Q R anyf n L f (listed.setIfInBounds i true) (a.put oi.dst v) w → wpAnyE P md ops Q R anyf n L (f + 1) listed a w := by
 have waits : ∀ (listed : Array Bool), HeadInv md ops n listed → i ∈ Region.ready md ops listed → ∀ j ∈ Region.ready md ops listed, j < n := fun listed inv hr => hw listed inv i hin hr
 have self : ∀ (f : Nat) (listed : Array Bool) (a : Act) (w w' : World), R w w' → (∀ w', (s = true ∨ Ext w w') → ∃ v', YieldsIn P ops (Cl w') oi v' a ∧ a.put oi.dst v' = a.put oi.dst v) →
   wpAnyE P md ops Q R anyf n L f (listed.setIfInBounds i true) (a.put oi.dst v) w →
   wpOp P ops (QX Q) i (fun a' w'' => (anyf i = false → Ext w' w'') ∧ wpAnyE P md ops Q R anyf n L f (listed.setIfInBounds i true) a' w'') a w' := fun f listed a w w' hr hy H => by
  obtain ⟨v', h1, h2⟩ := hy w' (.inr (hRE _ _ hr))
  exact YieldsIn.wpOp' hi (hCr w') h1 (fun w2 hw2 => ⟨fun _ => hRE _ _ (hCR _ _ hw2), by rw [h2]; exact wpAnyE_closed (R := R) hRt hL f _ _ w w2 H (hRt _ _ _ hr (hCR _ _ hw2))⟩)
 intro f
 induction f with
 | zero =>
  intro listed a w inv _ _ hr hy H
  refine ⟨fun h => (by rw [h] at hr; cases hr), fun w' hw' j hj => ⟨waits _ inv hr j hj, ?_⟩⟩
  by_cases hji : j = i
  · subst hji; exact self 0 listed a w w' hw' hy H
  ·
   have h1 := hdone _ _ _ H j (ready_mono hj hji)
   have := waits _ inv hr j hj
   omega
 | succ f ih =>
  intro listed a w inv hany2 hfree hr hy H
  have hun := (mem_ready.1 hr).1
  refine ⟨fun h => (by rw [h] at hr; cases hr), fun w' hw' j hj => ⟨waits _ inv hr j hj, ?_⟩⟩
  by_cases hji : j = i
  · subst hji; exact self (f + 1) listed a w w' hw' hy H
  ·
   have hjn := waits _ inv hr j hj
   have h1 := (H.2 w' hw' j (ready_mono hj hji)).2
   obtain ⟨hjun, oj, hoj, hall⟩ := mem_ready.1 hj
   have hnot : ∀ e ∈ oj.after, Region.binds md e = true → e.on ≠ i := fun e he hb heq => by
    have h1 := hall e he hb
    rw [heq, getD_both hun] at h1
    cases h1
   have hap := hfree j oj hoj hji hjun hnot
   obtain ⟨p1, p2, p3⟩ := Oper.apart_spec hap
   have hanyj : s = false → anyf j = false := fun hs0 => by
    cases hb : anyf j with
    | false => rfl
    | true =>
     have hwt : Region.waitsFor md ops j i = true := by
      rcases hany2 hs0 j hb with h9 | h9
      · rw [hjun] at h9; cases h9
      · exact h9
     obtain ⟨o', ho', e, he, hb', hon⟩ := Region.waitsFor_spec hwt
     have : o' = oj := Option.some.inj (ho'.symm.trans hoj)
     subst this
     exact absurd hon (hnot e he hb')
   have h2 := wpOp_past (Y := fun a' => ∀ w3, (s = true ∨ Ext w w3) → ∃ v', YieldsIn P ops (Cl w3) oi v' a' ∧ a'.put oi.dst v' = a'.put oi.dst v) hoj hap (fun cs b => hsel j oj cs b hoj)
    (fun c a w h => h) hy
    (fun a u hY w3 h3 => by
     obtain ⟨v', y1, y2⟩ := hY w3 h3
     refine ⟨v', y1.of_same (execOp_put oi (fun cs b => hsel i oi cs b hi) a oj.dst u p3) (wanted_put oi a oj.dst u p3), ?_⟩
     rw [← Act.put_comm a v' u p2, ← Act.put_comm a v u p2, y2])
    (fun a d hY w3 h3 => by
     obtain ⟨v', y1, y2⟩ := hY w3 h3
     exact ⟨v', y1.of_same rfl rfl, by rw [← Act.put_defers, ← Act.put_defers, y2]⟩) h1
   have hfree' : ∀ k ok, ops[k]? = some ok → k ≠ i → (listed.setIfInBounds j true).getD k true = false →
     (∀ e ∈ ok.after, Region.binds md e = true → e.on ≠ i) → oi.apart ops ok = true := fun k ok hk hki hun hno => by
    refine hfree k ok hk hki ?_ hno
    by_cases hjk : j = k
    · subst hjk; exact hjun
    · rw [getD_set_ne true hjk] at hun; exact hun
   have hany2' : s = false → ∀ k, anyf k = true → (listed.setIfInBounds j true).getD k true = true ∨ Region.waitsFor md ops k i = true := fun hs0 k hk => by
    rcases hany2 hs0 k hk with h9 | h9
    ·
     left
     by_cases hjk : j = k
     · subst hjk; rw [hjun] at h9; cases h9
     · rw [getD_set_ne true hjk]; exact h9
    · exact .inr h9
   refine wpOp_mono (fun a' w'' h3 => ⟨h3.2.1, ih (listed.setIfInBounds j true) a' w'' (inv.set hj hjn) hany2' hfree' (ready_mono hr (Ne.symm hji)) (fun w3 h4 => h3.1 w3 ?_) ?_⟩) h2
   ·
    rw [Array.setIfInBounds_comm _ _ hji]
    exact h3.2.2
   ·
    rcases h4 with h4 | h4
    · exact .inl h4
    ·
     cases hs0 : s with
     | true => exact .inl rfl
     | false => exact .inr (Ext.trans (Ext.trans (hRE _ _ hw') (h3.2.1 (hanyj hs0))) h4)

/-! ### Quiet operations, one behind the other -/
theorem put_other (a : Act) (dst : Option Tmp) (v : Value) (d : Tmp) (h : dst ≠ some d) : (a.put dst v).tmps[d]? = a.tmps[d]? := by
 cases dst with
 | none => rfl
 | some e =>
  have hne : e ≠ d := fun he => h (by rw [he])
  simp [Act.put, Array.getElem?_setIfInBounds_ne hne]

theorem quiet_frame {C : World → Prop} {A : Act} {d : Tmp} : ∀ (ls : List Oper) (a : Act), wpQuiet P ops C (fun a' => a' = A) ls a → (∀ o ∈ ls, o.dst ≠ some d) → A.tmps[d]? = a.tmps[d]?
 | [], a, h, _ => by rw [show a = A from h]
 | o :: ls, a, h, hd => by
  have hd' : ∀ o ∈ ls, o.dst ≠ some d := fun x hx => hd x (List.mem_cons_of_mem _ hx)
  have h0 := hd o List.mem_cons_self
  unfold wpQuiet at h
  split at h
  ·
   obtain ⟨v, _, hv⟩ := h
   rw [quiet_frame ls _ hv hd', put_other _ _ _ _ h0]
  · rw [quiet_frame ls _ h hd', put_other _ _ _ _ h0]

theorem put_same (a : Act) (d : Tmp) (v u : Value) (h : ∀ x, (a.put (some d) v).tmps[d]? = some x → x = u) : a.put (some d) v = a.put (some d) u := by
 by_cases hlt : d < a.tmps.size
 · rw [h v (by simp [Act.put, hlt])]
 · simp only [Act.put, Array.setIfInBounds, hlt, dite_false]

def setAll (is : List Nat) (listed : Array Bool) : Array Bool := is.foldl (fun x i => x.setIfInBounds i true) listed

def dstAt (ops : Array Oper) (i : Nat) : Option Tmp := (ops[i]?).bind (·.dst)

def lexQ (md : Region.Mode) (ops : Array Oper) (n : Nat) (anyL : List Nat) (s : Bool) : List Nat → Array Bool → Bool
 | [], _ => true
 | i :: is, listed => decide (i < n) && (Region.ready md ops listed).contains i && Region.free md ops listed i && (dstAt ops i).isSome && is.all (fun k => dstAt ops k != dstAt ops i) &&
   (s || (!anyL.contains i && anyL.all fun j => listed.getD j true || Region.waitsFor md ops j i)) && lexQ md ops n anyL s is (listed.setIfInBounds i true)

def lexW (md : Region.Mode) (ops : Array Oper) (n : Nat) (anyL : List Nat) : List Seg → Array Bool → Bool
 | [], listed => Region.seqB md ops (ops.size - n) n listed
 | .q s is :: r, listed => lexQ md ops n anyL s is listed && lexW md ops n anyL r (setAll is listed)
 | .e any j :: r, listed => decide (j < n) && decide (Region.ready md ops listed = [j]) && (any == anyL.contains j) && lexW md ops n anyL r (listed.setIfInBounds j true)

def count : List Seg → Nat
 | [] => 0
 | .q _ is :: r => count r + is.length
 | .e _ _ :: r => count r + 1
end

section
variable {P : Program} {l : List Oper} {Q : Exit → Act → World → Prop} {md : Region.Mode} {R Cl : World → World → Prop} {n : Nat} {L : Array Bool → Act → World → Prop} {anyL : List Nat}

theorem at_ops {i : Nat} (h : i < l.toArray.size) : l.toArray[i]? = some (l.getD i default) := by
 have h' : i < l.length := by simpa using h
 simp [h']

theorem batch {s : Bool} (hsel : Region.noSelect l.toArray = true) (hw : ∀ listed, HeadInv md l.toArray n listed → ∀ i, i < n → i ∈ Region.ready md l.toArray listed → ∀ j ∈ Region.ready md l.toArray listed, j < n) (hn : n ≤ l.toArray.size)
  (hRt : ∀ a b c, R a b → R b c → R a c) (hRE : ∀ a b, R a b → Ext a b)
  (hCr : ∀ w, Cl w w) (hCR : ∀ w x, Cl w x → R w x)
  (hL : ∀ listed a w w', L listed a w → R w w' → L listed a w')
  (hdone : ∀ listed a w, L listed a w → ∀ j ∈ Region.ready md l.toArray listed, n ≤ j) {A : Act} {w : World} {f : Nat} :
  ∀ (is : List Nat) (listed : Array Bool) (a : Act), HeadInv md l.toArray n listed → lexQ md l.toArray n anyL s is listed = true →
   (∀ w', (s = true ∨ Ext w w') → wpQuiet P l.toArray (Cl w') (fun a' => a' = A) (pick l is) a) →
   (HeadInv md l.toArray n (setAll is listed) → wpAnyE P md l.toArray Q R (fun j => anyL.contains j) n L f (setAll is listed) A w) →
   wpAnyE P md l.toArray Q R (fun j => anyL.contains j) n L (f + is.length) listed a w
 | [], listed, a, inv, _, h, H => by
  have : a = A := h w (.inr (Ext.refl _))
  subst this
  exact H inv
 | i :: is, listed, a, inv, hB, h, H => by
  simp only [lexQ, Bool.and_eq_true, decide_eq_true_eq] at hB
  obtain ⟨⟨⟨⟨⟨⟨hin, hr⟩, hf⟩, hd⟩, hds⟩, hany⟩, hB'⟩ := hB
  have hi := at_ops (l := l) (i := i) (by omega)
  have hr' : i ∈ Region.ready md l.toArray listed := by simpa using hr
  obtain ⟨d, hd⟩ := Option.isSome_iff_exists.1 hd
  have hdst : (l.getD i default).dst = some d := by simpa [dstAt, hi] using hd
  have hrest : ∀ o ∈ pick l is, o.dst ≠ some d := fun o ho => by
   unfold pick at ho
   obtain ⟨k, hk, rfl⟩ := List.mem_map.1 ho
   have h1 := List.all_eq_true.1 hds k hk
   intro h2
   have : dstAt l.toArray k = some d ∨ l.length ≤ k := by
    by_cases hkl : k < l.length
    · left; unfold dstAt; rw [at_ops (by simpa using hkl)]; exact h2
    · right; omega
   rcases this with h3 | h3
   · rw [h3, hd] at h1; simp at h1
   ·
    have h4 : (l.getD k default : Oper) = default := by simp [h3]
    rw [h4] at h2
    exact absurd h2 (by intro h5; cases h5)
  have key : ∀ w', (s = true ∨ Ext w w') → ∃ v', YieldsIn P l.toArray (Cl w') (l.getD i default) v' a ∧ a.put (l.getD i default).dst v' = a.put (l.getD i default).dst (A.tmps.getD d undef) ∧
    wpQuiet P l.toArray (Cl w') (fun a' => a' = A) (pick l is) (a.put (l.getD i default).dst v') := fun w' hw' => by
   have h1 : qOp P l.toArray (Cl w') i (wpQuiet P l.toArray (Cl w') (fun a' => a' = A) (pick l is)) a := by
    unfold qOp; simp only [hi]; exact h w' hw'
   obtain ⟨v', y1, y2⟩ := yieldsIn_of_qOp hi h1
   refine ⟨v', y1, ?_, y2⟩
   rw [hdst] at y2 ⊢
   refine put_same _ _ _ _ fun x hx => ?_
   have h3 := quiet_frame _ _ y2 hrest
   rw [hx] at h3
   simp [h3]
  have hnext : ∀ w', (s = true ∨ Ext w w') → wpQuiet P l.toArray (Cl w') (fun a' => a' = A) (pick l is) (a.put (l.getD i default).dst (A.tmps.getD d undef)) := fun w' hw' => by
   obtain ⟨v', _, y2, y3⟩ := key w' hw'
   rw [← y2]; exact y3
  have IH := batch hsel hw hn hRt hRE hCr hCR hL hdone is (listed.setIfInBounds i true) _ (inv.set hr' hin) hB' hnext H
  refine wpAnyE_first (s := s) hi (Region.noSelect_spec hsel) hw hin hRt hRE hCr hCR hL hdone (fun hs0 => ?_) (f + is.length) listed a w inv (fun hs0 j hj => ?_) (Region.free_spec hi hf) hr' (fun w' hw' => ?_) IH
  ·
   subst hs0
   simp only [Bool.false_or, Bool.and_eq_true, Bool.not_eq_true', List.all_eq_true] at hany
   exact hany.1
  ·
   subst hs0
   simp only [Bool.false_or, Bool.and_eq_true, Bool.not_eq_true', List.all_eq_true, Bool.or_eq_true] at hany
   exact hany.2 j (by simpa using hj)
  ·
   obtain ⟨v', y1, y2, _⟩ := key w' hw'
   exact ⟨v', y1, y2⟩

theorem letsOut_eff {any : Bool} {w : World} {K : Act → World → Prop} (h : LetsOut (effQ Q any w K)) : LetsOut (QX Q) := by
 obtain ⟨a, w, h⟩ := h
 exact ⟨a, w, h⟩

theorem canon {F : Act → World → Prop} (hsel : Region.noSelect l.toArray = true) (hw : ∀ listed, HeadInv md l.toArray n listed → ∀ i, i < n → i ∈ Region.ready md l.toArray listed → ∀ j ∈ Region.ready md l.toArray listed, j < n) (hn : n ≤ l.toArray.size)
  (hRt : ∀ a b c, R a b → R b c → R a c) (hRE : ∀ a b, R a b → Ext a b)
  (hCr : ∀ w, Cl w w) (hCR : ∀ w x, Cl w x → R w x)
  (hF : ∀ a w w', F a w → R w w' → F a w') :
  ∀ (segs : List Seg) (listed : Array Bool) (a : Act) (w : World), HeadInv md l.toArray n listed → lexW md l.toArray n anyL segs listed = true → W P l Q R Cl F segs a w →
   wpAnyE P md l.toArray Q R (fun j => anyL.contains j) n (fun listed a w => Region.seqB md l.toArray (l.toArray.size - n) n listed = true ∧ F a w) (count segs) listed a w
 | [], listed, a, w, inv, hB, h => ⟨hB, h⟩
 | .q s is :: r, listed, a, w, inv, hB, h => by
  simp only [lexW, Bool.and_eq_true] at hB
  obtain ⟨A, h1, h2⟩ := h
  exact batch hsel hw hn hRt hRE hCr hCR (fun _ _ _ _ hL hr => ⟨hL.1, hF _ _ _ hL.2 hr⟩) (fun _ _ _ hL => seqB_ready hL.1) is listed a inv hB.1 h1 (fun inv' => canon hsel hw hn hRt hRE hCr hCR hF r _ A w inv' hB.2 h2)
 | .e any j :: r, listed, a, w, inv, hB, h => by
  simp only [lexW, Bool.and_eq_true, decide_eq_true_eq, beq_iff_eq] at hB
  obtain ⟨⟨⟨hj, hr⟩, hany⟩, hB'⟩ := hB
  refine ⟨by rw [hr]; simp, fun w' hw' i hi => ?_⟩
  rw [hr] at hi
  have hij : i = j := by simpa using hi
  subst hij
  refine ⟨hj, ?_⟩
  have ho := at_ops (l := l) (i := i) (by omega)
  have h1 := h w' hw'
  have h2 : wpOp P l.toArray (effQ Q any w' (W P l Q R Cl F r)) i (fun a' w'' => effQ Q any w' (W P l Q R Cl F r) .normal a' w'') a w' := by
   unfold wpOp
   simp only [ho]
   unfold pick at h1
   simp only [List.map_cons, List.map_nil] at h1
   unfold wpList at h1
   exact h1
  refine wpOp_monoQ (Q := effQ Q any w' (W P l Q R Cl F r)) (fun a' w'' h3 => ⟨fun hb => h3.1 (hany.trans hb), canon hsel hw hn hRt hRE hCr hCR hF r _ a' w'' (inv.set (by rw [hr]; simp) hj) hB' h3.2⟩) (fun _ _ _ h => h) letsOut_eff h2

/-- Who waits: the tail for the head, or there is no tail. -/
def waitB (md : Region.Mode) (ops : Array Oper) (n : Nat) : Bool := decide (n = ops.size) || (decide (n < ops.size) && Region.sinkB md ops n && Region.chainB md ops n)

theorem waitB_spec {ops : Array Oper} (h : waitB md ops n = true) : n ≤ ops.size ∧ ∀ listed, HeadInv md ops n listed → ∀ i, i < n → i ∈ Region.ready md ops listed → ∀ j ∈ Region.ready md ops listed, j < n := by
 unfold waitB at h
 simp only [Bool.or_eq_true, Bool.and_eq_true, decide_eq_true_eq] at h
 rcases h with rfl | ⟨⟨h1, h2⟩, h3⟩
 ·
  refine ⟨Nat.le_refl _, fun listed _ i _ _ j hj => ?_⟩
  obtain ⟨_, o, ho, _⟩ := mem_ready.1 hj
  exact (Array.getElem?_eq_some_iff.1 ho).1
 ·
  refine ⟨by omega, fun listed inv i hi hr j hj => ?_⟩
  rcases Nat.lt_or_ge j n with h | h
  · exact h
  · exact absurd hj (tail_waits h2 h3 h1 inv _ i rfl hi (mem_ready.1 hr).1 j h)

theorem qx_imp {Q : Exit → Act → World → Prop} : LetsOut (QX Q) → LetsOut Q := fun ⟨a, w, h⟩ => ⟨a, w, h⟩

theorem wpAny_of_E {ops : Array Oper} {anyf : Nat → Bool} {g : Nat} (hRr : ∀ a, R a a) (hL : ∀ listed a w, L listed a w → wpAny P md ops Q g listed a w) :
  ∀ (f : Nat) (listed : Array Bool) (a : Act) (w : World), wpAnyE P md ops Q R anyf n L f listed a w → wpAny P md ops Q (f + g) listed a w
 | 0, listed, a, w, h => by rw [Nat.zero_add]; exact hL _ _ _ h
 | f + 1, listed, a, w, h => by
  rw [show f + 1 + g = (f + g) + 1 by omega]
  refine ⟨fun h0 => absurd h0 h.1, fun i hi => ?_⟩
  exact wpOp_monoQ (fun a' w' h3 => wpAny_of_E hRr hL f _ _ _ h3.2) (fun _ _ _ h => h.elim) qx_imp (h.2 w (hRr w) i hi).2

def okB (ops : Array Oper) (n : Nat) (anyL : List Nat) (segs : List Seg) : Bool :=
 Region.noSelect ops && waitB .any ops n && lexW .any ops n anyL segs (Array.replicate ops.size false) && decide (count segs + (ops.size - n) = ops.size)

theorem inv0 {ops : Array Oper} : HeadInv md ops n (Array.replicate ops.size false) :=
 ⟨by simp, fun j oj _ hl => (by rw [getD_replicate_false] at hl; cases hl), fun t _ ht => getD_in (by simpa using ht) (getD_replicate_false _ _)⟩

/-- A REGION THAT DRAWS, WALKED ONCE. n: how many operations stand ahead of the tail, which goes in the text's order. -/
theorem region {id : Nat} {a : Act} {w : World} (n : Nat) (anyL : List Nat) (segs : List Seg) (hm : P.follows .mixedOrders = true) (hB : okB l.toArray n anyL segs = true)
    (h : W P l Q (fun x y => x = y) ClE (wpList P l.toArray Q (l.drop n)) segs a w.drew) : (Code.region id l.toArray true).wp P Q a w := by
  simp only [okB, Bool.and_eq_true, decide_eq_true_eq] at hB
  obtain ⟨⟨⟨hsel, hwt⟩, hlex⟩, hcount⟩ := hB
  obtain ⟨hn, hw⟩ := waitB_spec hwt
  have h1 := canon (R := fun x y => x = y) hsel hw hn (fun _ _ _ h k => h.trans k) (fun a b h => h ▸ Ext.refl a) (Cl := ClE) (fun w => rfl) (fun w x h => h.symm) (fun a w w' h hr => hr ▸ h) segs _ a w.drew inv0 hlex h
  refine wp_region_any hm ?_
  have h2 := wpAny_of_E (g := l.toArray.size - n) (fun _ => rfl) (fun listed a w hL => by
    have := wpAny_of_seq (md := .any) (Q' := Q) (l.drop n) n listed a w (fun j => by simp [List.getElem?_drop]) (by have : (l.drop n).length = l.toArray.size - n := by simp
                                                                                                                    rw [this]; exact hL.1) hL.2
    rwa [show (l.drop n).length = l.toArray.size - n by simp] at this) _ _ _ _ h1
  rw [hcount] at h2
  exact h2

/-- .. where quiet operations may make new blocks, and others may step between. -/
theorem regionX {id : Nat} {a : Act} {w : World} (n : Nat) (anyL : List Nat) (segs : List Seg) (hm : P.follows .mixedOrders = true) (hB : okB l.toArray n anyL segs = true)
  (h : W P l Q Ext ClX (fun a' w' => ∀ w2, Ext w' w2 → wpList P l.toArray Q (l.drop n) a' w2) segs a w.drew) : (Code.region id l.toArray true).wp P Q a w := by
 simp only [okB, Bool.and_eq_true, decide_eq_true_eq] at hB
 obtain ⟨⟨⟨hsel, hwt⟩, hlex⟩, hcount⟩ := hB
 obtain ⟨hn, hw⟩ := waitB_spec hwt
 have h1 := canon (R := Ext) hsel hw hn (fun _ _ _ h k => Ext.trans h k) (fun a b h => h) (Cl := ClX) (fun w => ClX.mk (Ext.refl w)) (fun w x h => h.ext) (fun a w w' h hr w2 h2 => h w2 (Ext.trans hr h2)) segs _ a w.drew inv0 hlex h
 refine wp_region_any hm ?_
 have hlen : (l.drop n).length = l.toArray.size - n := by simp
 have h2 := wpAny_of_E (g := l.toArray.size - n) (fun a => Ext.refl a) (fun listed a w hL => by
  have := wpAny_of_seq (md := .any) (Q' := Q) (l.drop n) n listed a w (fun j => by simp [List.getElem?_drop]) (by rw [hlen]; exact hL.1) (hL.2 w (Ext.refl w))
  rwa [hlen] at this) _ _ _ _ h1
 rw [hcount] at h2
 exact h2

/-! ### New variables, whose addresses nobody in the head asks for -/
/-- Number, type, zero value, temporary. -/
abbrev Float := Nat × TypeId × Value × Tmp

def ptr (b : Nat) : Value := .pointer (some ⟨b, 0, none⟩)

/-- What is asked of the new variables. -/
def FloatOk (P : Program) (ops : Array Oper) (n : Nat) (x : Float) : Prop :=
 x.1 < n ∧ ∃ o t, ops[x.1]? = some o ∧ o.op = .alloc x.2.1 ∧ o.guard = none ∧ o.dst = some x.2.2.2 ∧ o.after = #[] ∧ P.info? x.2.1 = some t ∧ t.zero = some x.2.2.1

/-- What is owed of the new variables. -/
def FloatsOk (P : Program) (ops : Array Oper) (n : Nat) : List Float → Prop
 | [] => True
 | x :: r => FloatOk P ops n x ∧ FloatsOk P ops n r

theorem FloatsOk.all {ops : Array Oper} : ∀ {fl : List Float}, FloatsOk P ops n fl → ∀ x ∈ fl, FloatOk P ops n x
 | [], _, x, hx => by cases hx
 | y :: r, h, x, hx => by
  rcases List.mem_cons.1 hx with rfl | hx
  · exact h.1
  · exact FloatsOk.all h.2 x hx

/-! ### The steps of the walk -/
section
variable {F : Act → World → Prop} {is : List Nat} {rest : List Seg} {a : Act} {w : World} {A : Act} {j : Nat} {any : Bool}
theorem W_f (h : ∀ w', Ext w w' → ∀ K : Exit → Act → World → Prop, (∀ a w, Q .outgrown a w → K .outgrown a w) → (∀ a'' w'', ((any = false → Ext w' w'') ∧ W P l Q Ext ClX F rest a'' w'') → K .normal a'' w'') →
  wpList P l.toArray K (pick l [j]) a w') : W P l Q Ext ClX F (.e any j :: rest) a w := by
 intro w' hw'
 exact h w' hw' _ (fun a w h => h) (fun a w h => h)
end
end
end RG
end Go


/- Loads, stores, new blocks; regions; calls; loops. -/
namespace Go
namespace SE
open Go.RowKit
set_option linter.unusedVariables false
set_option linter.unusedSimpArgs false

def aggD : TypeDesc → Bool
 | .struct _ | .array _ _ => true
 | _ => false
theorem run_isAgg {P : Program} {t : TypeId} {D : TypeDesc} (h : P.underlying t = some D) (w : World) : (isAgg t).run P w = .ok (aggD D) w := by
 unfold isAgg
 rw [Sem.run_bind, run_underlying h, Result.andThen_ok]
 cases D <;> rfl
theorem run_tsz {P : Program} {t : TypeId} {n : Nat} (h : tsz P t = some n) (w : World) : (sizeOf t).run P w = .ok n w := by
 obtain ⟨i, hi, hn⟩ := Option.map_eq_some_iff.1 h
 simp [sizeOf, typeInfo, hi, hn]
theorem run_tze {P : Program} {t : TypeId} {z : Value} (h : tze P t = some z) (w : World) : (zeroValue t).run P w = .ok z w := by
 obtain ⟨i, hi, hn⟩ := Option.bind_eq_some_iff.1 h
 simp [zeroValue, typeInfo, hi, hn]

def splice {α : Type} (cur : List α) (p : Nat) (vs : List α) : List α := cur.take p ++ vs ++ cur.drop (p + vs.length)
theorem splice_nil {α : Type} (cur : List α) (p : Nat) : splice cur p [] = cur := by simp [splice]
theorem splice_cons {α : Type} (cur : List α) (p : Nat) (v : α) (vs : List α) (h : p < cur.length) : splice (cur.set p v) (p + 1) vs = splice cur p (v :: vs) := by
 unfold splice
 rw [List.take_set, List.drop_set]
 have h1 : (List.take (p + 1) cur).set p v = List.take p cur ++ [v] := by
  rw [List.take_succ_eq_append_getElem h, List.set_append_right _ _ (by simp; omega)]
  have : p - (List.take p cur).length = 0 := by simp; omega
  rw [this]
  rfl
 rw [h1, if_pos (by omega), show p + 1 + vs.length = p + (v :: vs).length by simp; omega]
 simp only [List.append_assoc, List.singleton_append]
theorem splice_length {α : Type} (cur : List α) (p : Nat) (vs : List α) (h : p + vs.length ≤ cur.length) : (splice cur p vs).length = cur.length := by
 simp [splice]; omega
theorem splice_all {α : Type} (cur vs : List α) (h : vs.length = cur.length) : splice cur 0 vs = vs := by
 simp [splice, h]
theorem splice_append {α : Type} (cs tl vs : List α) (p : Nat) (h : p + vs.length ≤ cs.length) : splice (cs ++ tl) p vs = splice cs p vs ++ tl := by
 unfold splice
 rw [List.take_append_of_le_length (by omega), List.drop_append_of_le_length (by omega)]
 simp

theorem run_stores {P : Program} (b o : Nat) (t : TypeId) (fz : Nat × Nat) : ∀ (vs : List Value) (i : Nat) (cur : List Value) (w : World), w.heap[b]? = some (.cells cur.toArray t fz) → o + i + vs.length ≤ cur.length → (fz = (0, 0) ∨ cur.length ≤ fz.1) → (∀ v ∈ vs, v.oneCell' = true) →
  ∃ w', (storeCells ⟨b, o, none⟩ vs i).run P w = .ok () w' ∧ Chg [b] w w' ∧ w'.heap[b]? = some (.cells (splice cur (o + i) vs).toArray t fz)
 | [], i, cur, w, hb, _, _, _ => ⟨w, rfl, Chg.refl _ _, by rw [splice_nil]; exact hb⟩
 | v :: vs, i, cur, w, hb, hl, hf, h1 => by
  have hi : o + i < cur.length := by simp at hl; omega
  have hcell : w.cell? ⟨b, o + i, none⟩ = some cur[o + i] := by rw [cell_of_row w b _ _ _ _ hb]; simp [hi]
  have hfro : w.frozen? ⟨b, o + i, none⟩ = false := by
   simp only [World.frozen?, hb]
   rcases hf with rfl | hf
   · simp
   · simp; omega
  have hst : (store ((⟨b, o, none⟩ : Addr).add i) v).run P w = .ok () (w.setCell ⟨b, o + i, none⟩ v) := by
   rw [add_addr, run_store P w _ v _ (h1 v (by simp))]
   simp [hcell, hfro]
  have hb1 : (w.setCell ⟨b, o + i, none⟩ v).heap[b]? = some (.cells (cur.set (o + i) v).toArray t fz) := by
   simp [World.setCell, Array.getElem?_modify, hb]
  have hc1 : Chg [b] w (w.setCell ⟨b, o + i, none⟩ v) := ⟨rfl, rfl, rfl, by simp [World.setCell], fun k _ hk => Below.heap_setCell _ _ _ _ (by simpa using hk)⟩
  obtain ⟨w', r1, r2, r3⟩ := run_stores (P := P) b o t fz vs (i + 1) (cur.set (o + i) v) _ hb1 (by simp at hl ⊢; omega) (by simpa using hf) (fun x hx => h1 x (by simp [hx]))
  refine ⟨w', ?_, hc1.trans r2, ?_⟩
  · simp only [storeCells, Sem.run_bind, hst, Result.andThen_ok, r1]
  · rw [r3, show o + (i + 1) = (o + i) + 1 by omega, splice_cons _ _ _ _ hi]

/-- An effect. -/
def SStep (P : Program) (E : Env) (any : Bool) (fr : Fr) (H : Hp) (o : Oper) (K : Fr → Hp → Prop) : Prop :=
 ∀ a w, Rep E fr H a w → o.wp P a w (fun a' w' => (any = false → Below w.heap.size w w') ∧ ∃ fr' H', K fr' H' ∧ Rep E fr' H' a' w') (fun _ _ _ => False)

section
variable {P : Program} {E : Env} {fr : Fr} {H : Hp} {o : Oper} {t ty : TypeId} {x y : Operand} {v : Value}

/-! ### Loads -/
theorem Q_load {b m k j : Nat} {r : Row} {D : TypeDesc} (ho : o.op = .load t x) (hx : fr.ev x = some (.pointer (some ⟨b, m, none⟩))) (hD : P.underlying t = some D) (hd : aggD D = false)
  (hk : H k = some r) (hb : r.b = b) (hm : r.s + j = m) (hj : r.cells[j]? = some v) : QStep P E fr H o v := by
 intro a w R
 subst hb hm
 have hc := R.heap.cell R.chg hk hj
 unfold execOp
 simp [ho, R.ev hx, Instr.loadAt, Instr.sureAddr, loadVar, run_isAgg hD, hd, load, Sem.run, hc]
/-- A row of one's own. -/
theorem Q_loadO {b m k rest : Nat} {ow : Bool} {ty : TypeId} {cs : List Value} {D : TypeDesc} (ho : o.op = .load t x) (hx : fr.ev x = some (.pointer (some ⟨b, m, none⟩))) (hD : P.underlying t = some D) (hd : aggD D = false)
  (hk : H k = some ⟨ow, b, 0, ty, cs, rest⟩) (hj : cs[m]? = some v) : QStep P E fr H o v := Q_load ho hx hD hd hk rfl (Nat.zero_add m) hj
/-- .. whose cells are one kind's. -/
theorem Q_loadM {α : Type} {f : α → Value} {l : List α} {b m k rest : Nat} {ow : Bool} {ty : TypeId} {D : TypeDesc} (d : α) (ho : o.op = .load t x) (hx : fr.ev x = some (.pointer (some ⟨b, m, none⟩))) (hD : P.underlying t = some D) (hd : aggD D = false)
  (hk : H k = some ⟨ow, b, 0, ty, l.map f, rest⟩) (hj : m < l.length) : QStep P E fr H o (f (l.getD m d)) :=
 Q_loadO ho hx hD hd hk (by simp [hj])
theorem Q_loadR {α : Type} {f : α → Value} {l : List α} {b m k s rest j : Nat} {ow : Bool} {ty : TypeId} {D : TypeDesc} (d : α) (ho : o.op = .load t x) (hx : fr.ev x = some (.pointer (some ⟨b, m, none⟩))) (hD : P.underlying t = some D) (hd : aggD D = false)
  (hk : H k = some ⟨ow, b, s, ty, l.map f, rest⟩) (hm : s + j = m) (hj : j < l.length) : QStep P E fr H o (f (l.getD j d)) :=
 Q_load ho hx hD hd hk rfl hm (by simp [hj])
theorem Q_loadN {b m k j n : Nat} {r : Row} {D : TypeDesc} {cs : List Value} (ho : o.op = .load t x) (hx : fr.ev x = some (.pointer (some ⟨b, m, none⟩))) (hD : P.underlying t = some D) (hd : aggD D = true) (hz : tsz P t = some n)
  (hk : H k = some r) (hb : r.b = b) (hm : r.s + j = m) (hc : (r.cells.drop j).take n = cs) (hn : cs.length = n) : QStep P E fr H o (.agg cs.toArray) := by
 intro a w R
 subst hb hm hn
 have h1 := run_loadCells_list (P := P) (w := w) ⟨r.b, r.s + j, none⟩ cs (fun i v hi => by
  rw [add_addr, Nat.add_assoc]
  refine R.heap.cell R.chg hk ?_
  rw [← hc] at hi
  rw [← List.getElem?_drop]
  rw [List.getElem?_take] at hi
  split at hi
  · exact hi
  · cases hi)
 unfold execOp
 simp [ho, R.ev hx, Instr.loadAt, Instr.sureAddr, loadVar, run_isAgg hD, hd, run_tsz hz, h1]
theorem Q_loadA {b k rest n : Nat} {ow : Bool} {ty : TypeId} {D : TypeDesc} {cs : List Value} (ho : o.op = .load t x) (hx : fr.ev x = some (.pointer (some ⟨b, 0, none⟩))) (hD : P.underlying t = some D) (hd : aggD D = true) (hz : tsz P t = some n) (hn : cs.length = n)
  (hk : H k = some ⟨ow, b, 0, ty, cs, rest⟩) : QStep P E fr H o (.agg cs.toArray) :=
 Q_loadN (j := 0) ho hx hD hd hz hk rfl rfl (by subst hn; simp) hn

/-! ### Stores -/
theorem S_storeN (d : Option Tmp) {b m k rest : Nat} {ty : TypeId} {cs vs : List Value} {K : Fr → Hp → Prop} (ho : o.op = .store t x y) (hx : fr.ev x = some (.pointer (some ⟨b, m, none⟩))) (hy : fr.ev y = some v) (hz : tsz P t = some vs.length) (hv : v.cells = vs.toArray) (h1 : ∀ u ∈ vs, u.oneCell' = true) (hpos : vs ≠ [])
  (hk : H k = some ⟨true, b, 0, ty, cs, rest⟩) (hm : m + vs.length ≤ cs.length) (h : K (fr.put E.n d undef) (H.set k ⟨true, b, 0, ty, splice cs m vs, rest⟩)) (hd : o.dst = d := by rfl) : SStep P E true fr H o K := by
 subst hd
 intro a w R
 have hvp : 0 < vs.length := List.length_pos_iff.2 hpos
 have hz0 : cs.length + rest ≠ 0 := by omega
 obtain ⟨_, e2, _, tl, fz, e4, e5, e6⟩ := R.heap.own_ hk rfl hz0
 dsimp only at e2 e4 e5 e6
 obtain ⟨w', r1, r2, r3⟩ := run_stores (P := P) b m ty fz vs 0 (cs ++ tl) w e6 (by simp; omega) (by rcases e5 with e5 | e5; exact Or.inl e5; right; simp; omega) h1
 have hsz : v.cells.size = vs.length := by rw [hv]; simp
 unfold Oper.wp execOp
 simp [ho, R.ev hx, R.ev hy, Instr.storeAt, Instr.sureAddr, storeVar, run_tsz hz, hsz, hv, r1, Oper.upon]
 refine ⟨_, _, h, ?_⟩
 have R' := R.put o.dst undef
 refine ⟨R'.df, R'.size, R'.fr, R.chg.trans_new r2 ?_, ?_⟩
 ·
  intro q hq
  obtain rfl : q = b := by simpa using hq
  exact (R.heap.own_ hk rfl hz0).2.2.1
 ·
  refine R.heap.write (r := ⟨true, b, 0, ty, cs, rest⟩) hk rfl hz0 (by rw [splice_length _ _ _ hm]) r2 fun tl' fz' ht' hh' => ?_
  dsimp only at hh' ht' ⊢
  rw [e6] at hh'
  simp only [Option.some.injEq, Obj.cells.injEq] at hh'
  obtain ⟨g1, _, g3⟩ := hh'
  have g1 : cs ++ tl = cs ++ tl' := by simpa using g1
  have g1 := List.append_cancel_left g1
  subst g1 g3
  refine ⟨tl, ht', ?_⟩
  rw [r3, Nat.add_zero, splice_append _ _ _ _ hm]
theorem splice_one {α : Type} (cs : List α) (m : Nat) (v : α) (h : m < cs.length) : splice cs m [v] = cs.set m v := by
 rw [← splice_cons _ _ _ _ h, splice_nil]
theorem S_store (d : Option Tmp) {b m k rest : Nat} {ty : TypeId} {cs : List Value} {K : Fr → Hp → Prop} (ho : o.op = .store t x y) (hx : fr.ev x = some (.pointer (some ⟨b, m, none⟩))) (hy : fr.ev y = some v) (hz : tsz P t = some 1) (hv : v.cells = #[v]) (h1 : v.oneCell' = true)
  (hk : H k = some ⟨true, b, 0, ty, cs, rest⟩) (hm : m < cs.length) (h : K (fr.put E.n d undef) (H.set k ⟨true, b, 0, ty, cs.set m v, rest⟩)) (hd : o.dst = d := by rfl) : SStep P E true fr H o K :=
 S_storeN d (vs := [v]) ho hx hy hz hv (by simpa using h1) (by simp) hk (by simp; omega) (by rw [splice_one _ _ _ hm]; exact h) hd
theorem S_storeM (d : Option Tmp) {α : Type} {f : α → Value} {l : List α} {u : α} {b m k rest : Nat} {ty : TypeId} {K : Fr → Hp → Prop} (ho : o.op = .store t x y) (hx : fr.ev x = some (.pointer (some ⟨b, m, none⟩))) (hy : fr.ev y = some (f u)) (hz : tsz P t = some 1) (hv : (f u).cells = #[f u]) (h1 : (f u).oneCell' = true)
  (hk : H k = some ⟨true, b, 0, ty, l.map f, rest⟩) (hm : m < l.length) (h : K (fr.put E.n d undef) (H.set k ⟨true, b, 0, ty, (l.set m u).map f, rest⟩)) (hd : o.dst = d := by rfl) : SStep P E true fr H o K :=
 S_store d ho hx hy hz hv h1 hk (by simpa using hm) (by rw [← List.map_set]; exact h) hd
theorem S_storeA (d : Option Tmp) {b k rest : Nat} {ty : TypeId} {cs vs : List Value} {K : Fr → Hp → Prop} (ho : o.op = .store t x y) (hx : fr.ev x = some (.pointer (some ⟨b, 0, none⟩))) (hy : fr.ev y = some v) (hz : tsz P t = some vs.length) (hv : v.cells = vs.toArray) (h1 : ∀ u ∈ vs, u.oneCell' = true) (hpos : vs ≠ [])
  (hk : H k = some ⟨true, b, 0, ty, cs, rest⟩) (hm : vs.length = cs.length) (h : K (fr.put E.n d undef) (H.set k ⟨true, b, 0, ty, vs, rest⟩)) (hd : o.dst = d := by rfl) : SStep P E true fr H o K :=
 S_storeN d ho hx hy hz hv h1 hpos hk (by omega) (by rw [splice_all _ _ hm]; exact h) hd

/-! ### New variables -/
theorem S_alloc (d : Option Tmp) (k : Nat) {e : TypeId} {z : Value} {zs : List Value} {K : Fr → Hp → Prop} (ho : o.op = .alloc e) (hz : tze P e = some z) (hc : z.cells.toList = zs)
  (h : ∀ b, K (fr.put E.n d (.pointer (some ⟨b, 0, none⟩))) (H.set k ⟨true, b, 0, e, zs, 0⟩)) (hd : o.dst = d := by rfl) : SStep P E false fr H o K := by
 subst hd
 intro a w R
 subst hc
 unfold Oper.wp execOp
 simp [ho, Instr.alloc, run_tze hz, newVar, newRow, newObj, Oper.upon]
 have hb : Below w.heap.size w (w.alloc (.cells z.cells e)) := (Below.refl _ _).alloc (Nat.le_refl _) _
 refine ⟨hb, _, _, h w.heap.size, ?_⟩
 have R' := R.put o.dst (.pointer (some ⟨w.heap.size, 0, none⟩))
 exact ⟨R'.df, R'.size, R'.fr, R.chg.trans (Chg.of_below hb), R.heap.alloc R.chg k _ _⟩
theorem S_box (d : Option Tmp) (k : Nat) {e : TypeId} {zs : List Value} {K : Fr → Hp → Prop} (ho : o.op = .box e x) (hx : fr.ev x = some v) (hc : v.cells.toList = zs)
  (h : ∀ b, K (fr.put E.n d (.pointer (some ⟨b, 0, none⟩))) (H.set k ⟨true, b, 0, e, zs, 0⟩)) (hd : o.dst = d := by rfl) : SStep P E false fr H o K := by
 subst hd
 intro a w R
 subst hc
 unfold Oper.wp execOp
 simp [ho, R.ev hx, Instr.box, newVar, newRow, newObj, Oper.upon]
 have hb : Below w.heap.size w (w.alloc (.cells v.cells e)) := (Below.refl _ _).alloc (Nat.le_refl _) _
 refine ⟨hb, _, _, h w.heap.size, ?_⟩
 have R' := R.put o.dst (.pointer (some ⟨w.heap.size, 0, none⟩))
 exact ⟨R'.df, R'.size, R'.fr, R.chg.trans (Chg.of_below hb), R.heap.alloc R.chg k _ _⟩

/-! ### The walk over a region -/
variable {ops : Array Oper} {Q : Exit → Act → World → Prop} {rest : List Oper}
theorem At.q (d : Option Tmp) (h : QStep P E fr H o v) (h' : At E (fr.put E.n d v) H (wpList P ops Q rest)) (hg : o.guard = none := by rfl) (hd : o.dst = d := by rfl) : At E fr H (wpList P ops Q (o :: rest)) := by
 intro a w R
 refine wpList_plain hg fun K hK => ?_
 unfold Oper.wp
 rw [h a w R]
 subst hd
 exact hK _ _ (h' _ _ (R.put o.dst v))
theorem At.p (d : Option Tmp) (h : PStep P fr o v) (h' : At E (fr.put E.n d v) H (wpList P ops Q rest)) (hg : o.guard = none := by rfl) (hd : o.dst = d := by rfl) : At E fr H (wpList P ops Q (o :: rest)) := At.q d h.q h' hg hd
theorem At.s {any : Bool} (h : SStep P E any fr H o (fun fr' H' => At E fr' H' (wpList P ops Q rest))) (hg : o.guard = none := by rfl) : At E fr H (wpList P ops Q (o :: rest)) := by
 intro a w R
 refine wpList_plain hg fun K hK => ?_
 exact RG.wp_monoQ (fun a' w' ⟨_, fr', H', h1, h2⟩ => hK _ _ (h1 _ _ h2)) (fun _ _ _ h => h.elim) (fun ⟨_, _, h⟩ => h.elim) (h a w R)
theorem At.nil (h : At E fr H (Q .normal)) : At E fr H (wpList P ops Q []) := h
theorem wanted_of {j : Nat} {want : Bool} (hg : o.guard = some (j, want)) {t : Tmp} (hj : (ops[j]?).bind (·.dst) = some t) {bb : Bool} (hb : fr t = some (.bool bb)) {a : Act} {w : World} (R : Rep E fr H a w) :
  Region.wanted o (yielded ops a.tmps) = (bb == want) := by
 have h1 := R.fr t _ hb
 simp only [Region.wanted, hg, yielded, hj, Option.bind_some, h1]
 cases bb <;> cases want <;> rfl
/-- A guarded operation that comes. -/
theorem At.gy {j : Nat} {want bb : Bool} {t : Tmp} (hb : fr t = some (.bool bb)) (hw : bb = want) (hg : o.guard = some (j, want)) (hj : (ops[j]?).bind (·.dst) = some t)
  (h : At E fr H (wpList P ops Q ({ o with guard := none } :: rest))) : At E fr H (wpList P ops Q (o :: rest)) := by
 intro a w R
 have h1 := wanted_of (E := E) (H := H) hg hj hb R
 have h2 := h a w R
 subst hw
 unfold wpList at h2 ⊢
 rw [h1]
 simp only [Region.wanted, if_true, beq_self_eq_true] at h2 ⊢
 exact h2
/-- .. that doesn't. -/
theorem At.gn (d : Option Tmp) {j : Nat} {want bb : Bool} {t : Tmp} (hb : fr t = some (.bool bb)) (hw : bb = !want) (hg : o.guard = some (j, want)) (hj : (ops[j]?).bind (·.dst) = some t)
  (h : At E (fr.put E.n d undef) H (wpList P ops Q rest)) (hd : o.dst = d := by rfl) : At E fr H (wpList P ops Q (o :: rest)) := by
 intro a w R
 subst hd
 have h1 := wanted_of (E := E) (H := H) hg hj hb R
 have h2 := h _ w (R.put o.dst undef)
 subst hw
 unfold wpList
 rw [h1]
 cases want <;> simpa using h2

/-! ### Code -/
theorem At.region {id : Nat} {l : List Oper} (h : At E fr H (wpList P l.toArray Q l)) : At E fr H ((Code.region id l.toArray false).wp P Q) := fun a w R => wp_region_lit (h a w R)
theorem At.seq {c d : Code} (h : At E fr H (c.wp P (Exit.then (d.wp P Q) Q))) : At E fr H ((Code.seq c d).wp P Q) := fun a w R => wp_seq (h a w R)
theorem At.next {K : Act → World → Prop} (h : At E fr H K) : At E fr H (Exit.then K Q .normal) := h
theorem At.block {id : Nat} {c : Code} (h : At E fr H (c.wp P (Exit.inBlock id Q))) : At E fr H ((Code.block id c).wp P Q) := fun a w R => wp_block (h a w R)
theorem At.exit {id : Nat} (h : At E fr H (Q (.exit id))) : At E fr H ((Code.exit id).wp P Q) := fun a w R => wp_exit (h a w R)
theorem At.skip (h : At E fr H (Q .normal)) : At E fr H (Code.skip.wp P Q) := fun a w R => wp_skip (h a w R)
theorem At.ret (h : At E fr H (Q .ret)) : At E fr H (Code.ret.wp P Q) := fun a w R => wp_ret (h a w R)
theorem At.cond {c : Operand} {p q : Code} {bb : Bool} (hc : fr.ev c = some (.bool bb)) (h1 : bb = true → At E fr H (p.wp P Q)) (h2 : bb = false → At E fr H (q.wp P Q)) : At E fr H ((Code.cond c p q).wp P Q) := by
 intro a w R
 refine wp_cond (t := bb) (R.ev hc) ?_
 cases bb
 · exact h2 rfl a w R
 · exact h1 rfl a w R
/-- A loop: I m: at most m rounds more. -/
theorem At.loop {c : Code} (I : Nat → Fr → Hp → Prop) (m : Nat) (h0 : I m fr H)
  (h : ∀ m fr H, I m fr H → ∀ K : Act → World → Prop, (∀ m' fr' H', m' < m → I m' fr' H' → At E fr' H' K) → At E fr H (c.wp P (Exit.then K Q))) : At E fr H ((Code.loop c).wp P Q) := by
 have key : ∀ n m fr H, I m fr H → m < n → At E fr H (Code.rounds P c Q n) := by
  intro n
  induction n with
  | zero => intro m fr H _ hm; omega
  | succ n ih =>
   intro m fr H hI hm a w R
   rw [rounds_succ]
   exact h m fr H hI _ (fun m' fr' H' hm' hI' => ih m' fr' H' hI' (by omega)) a w R
 exact fun a w R => wp_loop_rounds (m + 1) (key (m + 1) m fr H h0 (by omega) a w R)

/-! ### A region that draws its order -/
/-- The walk in its one order. -/
abbrev WX (P : Program) (l : List Oper) (Q : Exit → Act → World → Prop) (n : Nat) (segs : List RG.Seg) : Act → World → Prop :=
 RG.W P l Q RG.Ext RG.ClX (fun a' w' => ∀ w2, RG.Ext w' w2 → wpList P l.toArray Q (l.drop n) a' w2) segs
theorem At.draws {id : Nat} {l : List Oper} (n : Nat) (anyL : List Nat) (segs : List RG.Seg) (hm : P.follows .mixedOrders = true) (hB : RG.okB l.toArray n anyL segs = true)
  (h : At E fr H (WX P l Q n segs)) : At E fr H ((Code.region id l.toArray true).wp P Q) :=
 fun a w R => RG.regionX n anyL segs hm hB (h a _ R.drew)
variable {l : List Oper} {n : Nat} {segs : List RG.Seg} {s any : Bool} {is : List Nat} {i : Nat}
theorem W_cons {Cl R : World → World → Prop} {F : Act → World → Prop} {a : Act} {w : World} {A : Act} (h : ∀ w', (s = true ∨ RG.Ext w w') → ∀ Y : Act → Prop, Y A → wpQuiet P l.toArray (Cl w') Y (RG.pick l [i]) a) (h' : RG.W P l Q R Cl F (.q s is :: segs) A w) :
  RG.W P l Q R Cl F (.q s (i :: is) :: segs) a w := by
 obtain ⟨B, h1, h2⟩ := h'
 refine ⟨B, fun w' hw' => ?_, h2⟩
 have h3 := h w' hw' _ (h1 w' hw')
 unfold RG.pick at h3 ⊢
 simp only [List.map_cons, List.map_nil] at h3 ⊢
 unfold wpQuiet at h3 ⊢
 split
 ·
  rename_i hw
  rw [if_pos hw] at h3
  obtain ⟨v, y1, y2⟩ := h3
  exact ⟨v, y1, y2⟩
 ·
  rename_i hw
  rw [if_neg hw] at h3
  exact h3
theorem W_qnil {Cl R : World → World → Prop} {F : Act → World → Prop} {a : Act} {w : World} (h : RG.W P l Q R Cl F segs a w) : RG.W P l Q R Cl F (.q s [] :: segs) a w := ⟨a, fun _ _ => rfl, h⟩
theorem At.wqn (h : At E fr H (WX P l Q n segs)) : At E fr H (WX P l Q n (.q s [] :: segs)) := fun a w R => W_qnil (h a w R)
theorem At.wq (d : Option Tmp) (h : QStep P E fr H (l.getD i default) v) (h' : At E (fr.put E.n d v) H (WX P l Q n (.q false is :: segs))) (hg : (l.getD i default).guard = none := by rfl) (hd : (l.getD i default).dst = d := by rfl) : At E fr H (WX P l Q n (.q false (i :: is) :: segs)) := by
 intro a w R
 subst hd
 refine W_cons (fun w' hw' Y hY => ?_) (h' _ w (R.put _ v))
 have hw' : RG.Ext w w' := by simpa using hw'
 show wpQuiet P l.toArray (RG.ClX w') Y [l.getD i default] a
 unfold wpQuiet
 rw [if_pos (by unfold Region.wanted; rw [hg])]
 refine ⟨v, fun w2 hw2 => ?_, hY⟩
 unfold Oper.quietAt
 rw [h a w2 (R.below (RG.Ext.trans hw' hw2.ext))]
 exact ⟨rfl, rfl⟩
theorem At.wp (d : Option Tmp) {b : Bool} (h : PStep P fr (l.getD i default) v) (h' : At E (fr.put E.n d v) H (WX P l Q n (.q b is :: segs))) (hg : (l.getD i default).guard = none := by rfl) (hd : (l.getD i default).dst = d := by rfl) : At E fr H (WX P l Q n (.q b (i :: is) :: segs)) := by
 intro a w R
 subst hd
 refine W_cons (fun w' hw' Y hY => ?_) (h' _ w (R.put _ v))
 show wpQuiet P l.toArray (RG.ClX w') Y [l.getD i default] a
 unfold wpQuiet
 rw [if_pos (by unfold Region.wanted; rw [hg])]
 refine ⟨v, fun w2 hw2 => ?_, hY⟩
 unfold Oper.quietAt
 rw [h a R.fr w2]
 exact ⟨rfl, rfl⟩
/-- The operation that acts. -/
theorem At.we {j : Nat} (h : SStep P E any fr H (l.getD j default) (fun fr' H' => At E fr' H' (WX P l Q n segs))) (hg : (l.getD j default).guard = none := by rfl) : At E fr H (WX P l Q n (.e any j :: segs)) := by
 intro a w R
 refine RG.W_f fun w' hw' K hKo hK => ?_
 show wpList P l.toArray K [l.getD j default] a w'
 refine wpList_plain hg fun K' hK' => ?_
 refine RG.wp_monoQ (fun a' w'' ⟨h1, fr', H', h2, h3⟩ => hK' _ _ (hK _ _ ⟨h1, h2 _ _ h3⟩)) (fun _ _ _ h => h.elim) (fun ⟨_, _, h⟩ => h.elim) (h a w' (R.below hw'))
/-- The tail. -/
theorem At.wt {rest : List Oper} (hr : l.drop n = rest) (h : At E fr H (wpList P l.toArray Q rest)) : At E fr H (WX P l Q n []) := by
 intro a w R
 subst hr
 exact fun w2 hw2 => h a w2 (R.below hw2)

/-! ### Calls -/
def entersB (P : Program) (f : FuncId) : Bool := match P.funcs[f]? with
 | some fn => fn.name != "runtime.NumGoroutine" && fn.body.isSome
 | none => false
theorem run_enters {f : FuncId} (h : entersB P f = true) (args : Array Value) (w : World) : (callFunc f args).run P w = .ok (.enter f args) w := by
 unfold entersB at h
 split at h
 ·
  rename_i fn hf
  simp only [Bool.and_eq_true, bne_iff_ne, ne_eq] at h
  unfold callFunc
  have h3 : fn.body.isNone = false := by cases hb : fn.body with
   | none => rw [hb] at h; simp at h
   | some c => rfl
  simp [program, hf, h.1, Sem.run]
  intro hn
  rw [hn] at h3
  cases h3
 · cases h
def ArgsOk (fr : Fr) (xs : List Operand) (vs : List Value) : Prop := xs.map fr.ev = vs.map some
theorem ArgsOk.eval {a : Act} (hf : FrOk fr a) : ∀ {xs : List Operand} {vs : List Value}, ArgsOk fr xs vs → xs.map a.eval = vs
 | [], [], _ => rfl
 | [], v :: vs, h => by simp [ArgsOk] at h
 | x :: xs, [], h => by simp [ArgsOk] at h
 | x :: xs, v :: vs, h => by
  simp only [ArgsOk, List.map_cons, List.cons.injEq] at h
  rw [List.map_cons, hf.ev h.1, ArgsOk.eval hf (xs := xs) (vs := vs) h.2]
theorem run_call {f : FuncId} {xs : List Operand} {tys : Array TypeId} {vs : List Value} (ho : o.op = .call ⟨.value (.func f), xs.toArray, tys⟩) (he : entersB P f = true) (ha : ArgsOk fr xs vs) {a : Act} (hf : FrOk fr a) (w : World) :
  (execOp a.eval o).run P w = .ok (.enter f vs.toArray) w := by
 unfold execOp
 have h1 := ha.eval hf
 simp [ho, resolve, Act.eval, Deferred.ofValue, invoke, h1, run_enters he]
/-- A call whose callee's contract tells what becomes of the rows. -/
theorem S_call (d : Option Tmp) {f : FuncId} {xs : List Operand} {tys : Array TypeId} {vs : List Value} {K : Fr → Hp → Prop} (ho : o.op = .call ⟨.value (.func f), xs.toArray, tys⟩) (he : entersB P f = true) (ha : ArgsOk fr xs vs)
  (h : ∀ w, Chg E.S E.W0 w → HR E H w → Calls P f vs.toArray w fun e w' => ∃ v H', e = .returned v ∧ (any = false → Below w.heap.size w w') ∧ Chg E.S E.W0 w' ∧ HR E H' w' ∧ K (fr.put E.n d v) H') (hd : o.dst = d := by rfl) : SStep P E any fr H o K := by
 subst hd
 intro a w R
 unfold Oper.wp
 rw [run_call ho he ha R.fr w]
 refine (h w R.chg R.heap).mono fun e w' ⟨v, H', he, h1, h2, h3, h4⟩ => ?_
 subst he
 have R' := R.put o.dst v
 exact ⟨h1, _, _, h4, R'.df, R'.size, R'.fr, h2, h3⟩
/-- A quiet call, in a region that draws. -/
theorem At.wc (d : Option Tmp) {f : FuncId} {xs : List Operand} {tys : Array TypeId} {vs : List Value} (ho : (l.getD i default).op = .call ⟨.value (.func f), xs.toArray, tys⟩) (he : entersB P f = true) (ha : ArgsOk fr xs vs)
  (h : ∀ w, Chg E.S E.W0 w → HR E H w → Calls P f vs.toArray w fun e w' => e = .returned v ∧ Below w.heap.size w w')
  (h' : At E (fr.put E.n d v) H (WX P l Q n (.q false is :: segs))) (hg : (l.getD i default).guard = none := by rfl) (hd : (l.getD i default).dst = d := by rfl) : At E fr H (WX P l Q n (.q false (i :: is) :: segs)) := by
 intro a w R
 subst hd
 refine W_cons (fun w' hw' Y hY => ?_) (h' _ w (R.put _ v))
 have hw' : RG.Ext w w' := by simpa using hw'
 show wpQuiet P l.toArray (RG.ClX w') Y [l.getD i default] a
 unfold wpQuiet
 rw [if_pos (by unfold Region.wanted; rw [hg])]
 refine ⟨v, fun w2 hw2 => ?_, hY⟩
 unfold Oper.quietAt
 have R2 := R.below (RG.Ext.trans hw' hw2.ext)
 rw [run_call ho he ha R.fr w2]
 exact ⟨rfl, (h w2 R2.chg R2.heap).mono fun e w3 ⟨h1, h2⟩ => ⟨h1, RG.ClX.mk (RG.Ext.trans hw2.ext h2)⟩⟩
/-! ### The end -/
def ResOk (fr : Fr) : List ResultVar → List Value → Prop
 | [], [] => True
 | .tmp t :: rs, v :: vs => fr t = some v ∧ ResOk fr rs vs
 | _, _ => False
theorem ResOk.eq {a : Act} (hf : FrOk fr a) : ∀ {rs : List ResultVar} {vs : List Value}, ResOk fr rs vs → ∃ ts : List Tmp, rs = ts.map .tmp ∧ ts.map (fun t => a.tmps.getD t undef) = vs
 | [], [], _ => ⟨[], rfl, rfl⟩
 | .tmp t :: rs, v :: vs, h => by
  obtain ⟨ts, h1, h2⟩ := ResOk.eq hf h.2
  refine ⟨t :: ts, by rw [h1]; rfl, ?_⟩
  have h3 := hf t v h.1
  rw [List.map_cons, h2]
  simp [h3]
 | [], _ :: _, h => h.elim
 | .tmp _ :: _, [], h => h.elim
 | .cell _ _ :: _, [], h => h.elim
 | .cell _ _ :: _, _ :: _, h => h.elim
def retV : List Value → Value
 | [v] => v
 | vs => .tuple vs.toArray
theorem run_results {fn : Func} {tmps : Array Value} {ts : List Tmp} (h : fn.results = (ts.map ResultVar.tmp).toArray) (hl : ts.length ≤ 4) (w : World) :
  (results fn tmps).run P w = .ok (retV (ts.map fun t => tmps.getD t undef)) w := by
 match ts, h, hl with
 | [], h, _ => simp [results, h, retV]
 | [a], h, _ => simp [results, h, retV]
 | [a, b], h, _ => simp [results, h, retV]
 | [a, b, c], h, _ => simp [results, h, retV]
 | [a, b, c, d], h, _ => simp [results, h, retV]
 | a :: b :: c :: d :: e :: r, _, hl => simp at hl
theorem At.done {fn : Func} {rs : List ResultVar} {vs : List Value} {R : Ending → World → Prop} (hE : E.df = []) (hr : fn.results = rs.toArray) (hv : ResOk fr rs vs) (h : ∀ w, Chg E.S E.W0 w → HR E H w → R (.returned (retV vs)) w) (hl : rs.length ≤ 4 := by decide) : At E fr H (bodyPost P fn R .ret) := by
 intro a w Rp
 obtain ⟨ts, h1, h2⟩ := ResOk.eq Rp.fr hv
 subst h1 h2
 exact ⟨Rp.df.trans hE, _, run_results hr (Nat.le_trans (Nat.le_of_eq (List.length_map ResultVar.tmp).symm) hl) w, h w Rp.chg Rp.heap⟩
def frA (args : List Value) : Fr := fun i => args[i]?
/-- The beginning. -/
theorem enter {f : FuncId} {fn : Func} {c : Code} {args : List Value} {w : World} {R : Ending → World → Prop} {n : Nat} (S : List Nat) (H : Hp) (hf : P.funcs[f]? = some fn) (hb : fn.body = some c) (hn : fn.ntmps = n) (hle : args.length ≤ n)
  (hH : HR ⟨w, S, n, []⟩ H w) (h : At ⟨w, S, n, []⟩ (frA args) H (c.wp P (bodyPost P fn R))) : Calls P f args.toArray w R := by
 refine calls_of_wp hf hb (h _ w ⟨rfl, ?_, ?_, Chg.refl _ _, hH⟩)
 · subst hn; simp; omega
 ·
  intro i v hi
  have h2 : args[i]? = some v := hi
  have h3 := (List.getElem?_eq_some_iff.1 h2).1
  rw [Array.getElem?_append_left (by simpa using h3)]
  simpa using h2
end
end SE
end Go


/- Slices: cut, appended, made, copied; parts put together; strings. -/
namespace Go
namespace SE
open Go.RowKit
set_option linter.unusedVariables false
set_option linter.unusedSimpArgs false

/-- A bound of a cut: left out (then it is d), or a number. -/
def Bd (fr : Fr) (x : Option Operand) (d l : Nat) : Prop := match x with
 | none => l = d
 | some ox => ∃ k i, fr.ev ox = some (.int k i) ∧ i = (l : Int)

theorem run_sliceBound {P : Program} {k : IntKind} {l y : Nat} {c : BoundsCode} (h : l ≤ y) (w : World) : (Instr.sliceBound (.int k (l : Int)) y c).run P w = .ok l w := by
 have : (0 : Int) ≤ (l : Int) ∧ (l : Int) ≤ (y : Int) := by omega
 simp [Instr.sliceBound, asIntOf, h]
theorem run_bounds {P : Program} {fr : Fr} {a : Act} (hf : FrOk fr a) {lo hi mx : Option Operand} {len cap l h m : Nat} {b : Bool} (hl : Bd fr lo 0 l) (hh : Bd fr hi len h) (hm : Bd fr mx cap m) (h1 : l ≤ h) (h2 : h ≤ m) (h3 : m ≤ cap) (hmx : mx.isSome = true → hi.isSome = true) (w : World) :
  (Instr.sliceBounds b len cap (lo.map a.eval) (hi.map a.eval) (mx.map a.eval)).run P w = .ok (l, h, m) w := by
 unfold Instr.sliceBounds
 cases lo with
 | none =>
  simp only [Bd] at hl
  subst hl
  cases hi with
  | none =>
   simp only [Bd] at hh
   subst hh
   cases mx with
   | none => simp only [Bd] at hm; subst hm; simp
   | some x => simp at hmx
  | some y =>
   obtain ⟨ky, iy, hy, rfl⟩ := hh
   cases mx with
   | none => simp only [Bd] at hm; subst hm; simp [hf.ev hy, run_sliceBound h2]
   | some x =>
    obtain ⟨kx, ix, hx, rfl⟩ := hm
    simp [hf.ev hy, hf.ev hx, run_sliceBound h2, run_sliceBound h3]
 | some z =>
  obtain ⟨kz, iz, hz, rfl⟩ := hl
  cases hi with
  | none =>
   simp only [Bd] at hh
   subst hh
   cases mx with
   | none => simp only [Bd] at hm; subst hm; simp [hf.ev hz, run_sliceBound h1]
   | some x => simp at hmx
  | some y =>
   obtain ⟨ky, iy, hy, rfl⟩ := hh
   cases mx with
   | none => simp only [Bd] at hm; subst hm; simp [hf.ev hy, hf.ev hz, run_sliceBound h1, run_sliceBound h2]
   | some x =>
    obtain ⟨kx, ix, hx, rfl⟩ := hm
    simp [hf.ev hy, hf.ev hx, hf.ev hz, run_sliceBound h1, run_sliceBound h2, run_sliceBound h3]

/-- The address of a cut. -/
def cut (A : Option Addr) (l m sz : Nat) : Option Addr := if m = l then A else A.map (·.add (l * sz))
theorem cut_addr {A : Option Addr} {b o l m sz : Nat} (hA : A = some ⟨b, o, none⟩) (h : l < m) : cut A l m sz = some ⟨b, o + l * sz, none⟩ := by
 unfold cut
 rw [if_neg (by omega), hA]
 simp [add_addr]
theorem cut_addr1 {A : Option Addr} {b o l m : Nat} (hA : A = some ⟨b, o, none⟩) (h : l < m) : cut A l m 1 = some ⟨b, o + l, none⟩ := by rw [cut_addr hA h, Nat.mul_one]
theorem cut_zero {A : Option Addr} {b o m sz : Nat} (hA : A = some ⟨b, o, none⟩) : cut A 0 m sz = some ⟨b, o, none⟩ := by
 unfold cut
 split
 · exact hA
 · rw [hA]; simp [Addr.add]

section
variable {P : Program} {E : Env} {fr : Fr} {H : Hp} {o : Oper} {t ty : TypeId} {x y : Operand} {v : Value}

theorem P_slice_sl {t e : TypeId} {lo hi mx : Option Operand} {A : Option Addr} {len cap l h m sz : Nat} (ho : o.op = .slice t x lo hi mx) (ht : P.underlying t = some (.slice e)) (hz : tsz P e = some sz)
  (hx : fr.ev x = some (.slice A len cap)) (hl : Bd fr lo 0 l) (hh : Bd fr hi len h) (hm : Bd fr mx cap m) (h1 : l ≤ h) (h2 : h ≤ m) (h3 : m ≤ cap) (hmx : mx.isSome = true → hi.isSome = true := by decide) :
  PStep P fr o (.slice (cut A l m sz) (h - l) (m - l)) := by
 intro a ha w; unfold execOp
 have hb := run_bounds (P := P) (b := true) ha hl hh hm h1 h2 h3 hmx
 simp [ho, ha.ev hx, Instr.sliceAt, Instr.slice, run_underlying ht, hb, run_tsz hz, cut]
theorem P_slice_arr {t e : TypeId} {lo hi mx : Option Operand} {n b q l h m sz : Nat} (ho : o.op = .slice t x lo hi mx) (ht : P.underlying t = some (.array n e)) (hz : tsz P e = some sz)
  (hx : fr.ev x = some (.pointer (some ⟨b, q, none⟩))) (hl : Bd fr lo 0 l) (hh : Bd fr hi n h) (hm : Bd fr mx n m) (h1 : l ≤ h) (h2 : h ≤ m) (h3 : m ≤ n) (h4 : l < m ∨ l = 0) (hmx : mx.isSome = true → hi.isSome = true := by decide) :
  PStep P fr o (.slice (some ⟨b, q + l * sz, none⟩) (h - l) (m - l)) := by
 intro a ha w; unfold execOp
 have hb := run_bounds (P := P) (b := false) ha hl hh hm h1 h2 h3 hmx
 have : (if m = l then (⟨b, q, none⟩ : Addr) else ⟨b, q + l * sz, none⟩) = ⟨b, q + l * sz, none⟩ := by
  split
  ·
   rcases h4 with h4 | h4
   · omega
   · subst h4; simp
  · rfl
 simp [ho, ha.ev hx, Instr.sliceAt, run_underlying ht, hb, run_tsz hz, Instr.sureAddr, add_addr, this]
theorem P_slice_arr1 {t e : TypeId} {lo hi mx : Option Operand} {n b l h m : Nat} (ho : o.op = .slice t x lo hi mx) (ht : P.underlying t = some (.array n e)) (hz : tsz P e = some 1)
  (hx : fr.ev x = some (.pointer (some ⟨b, 0, none⟩))) (hl : Bd fr lo 0 l) (hh : Bd fr hi n h) (hm : Bd fr mx n m) (h1 : l ≤ h) (h2 : h ≤ m) (h3 : m ≤ n) (h4 : l < m ∨ l = 0) (hmx : mx.isSome = true → hi.isSome = true := by decide) :
  PStep P fr o (.slice (some ⟨b, l, none⟩) (h - l) (m - l)) := by
 have := P_slice_arr (P := P) ho ht hz hx hl hh hm h1 h2 h3 h4 hmx
 rwa [Nat.zero_add, Nat.mul_one] at this
/-! ### Parts -/
/-- The places of a struct's parts. -/
def places (P : Program) (t : TypeId) : Option (List (Nat × Nat)) := match P.underlying t with
 | some (.struct fs) => fs.toList.mapM fun f => (tsz P f.type).map fun n => (f.offset, n)
 | _ => none
theorem run_places {P : Program} {w : World} : ∀ (fs : List Field) (pl : List (Nat × Nat)), (fs.mapM fun f => (tsz P f.type).map fun n => (f.offset, n)) = some pl → (fs.mapM (m := Sem) fun f => do pure (f.offset, ← sizeOf f.type)).run P w = .ok pl w
 | [], pl, h => by simp at h; subst h; simp
 | f :: fs, pl, h => by
  rw [List.mapM_cons] at h ⊢
  simp only [Option.bind_eq_bind, Option.bind_eq_some_iff, Option.map_eq_some_iff] at h
  obtain ⟨p, ⟨n, hn, rfl⟩, ps, hps, h⟩ := h
  cases h
  simp only [Sem.run_bind, run_tsz hn, Result.andThen_ok, Sem.run_pure, run_places fs ps hps]
theorem P_build_struct {t : TypeId} {fs : Array Field} {z : Value} {pl : List (Nat × Nat)} {parts : List (Nat × Operand)} {vs : List (Nat × Value)} {cs : Array Value} (ho : o.op = .build t parts.toArray) (ht : P.underlying t = some (.struct fs)) (hzz : tze P t = some z)
  (hpl : places P t = some pl)
  (hp : parts.map (fun p => (p.1, fr.ev p.2)) = vs.map (fun p => (p.1, some p.2))) (hc : Instr.fill (pl.toArray[·]?) z.cells vs = some cs) : PStep P fr o (.agg cs) := by
 intro a ha w; unfold execOp
 have he : parts.map (fun p => (p.1, a.eval p.2)) = vs := by
  clear hc ho
  induction parts generalizing vs with
  | nil => cases vs <;> simp_all
  | cons p ps ih =>
   cases vs with
   | nil => simp at hp
   | cons q qs =>
    simp only [List.map_cons, List.cons.injEq, Prod.mk.injEq] at hp
    rw [List.map_cons, ih hp.2, ha.ev hp.1.2, hp.1.1]
 have hm : (fs.mapM (m := Sem) fun f => do pure (f.offset, ← sizeOf f.type)).run P w = .ok pl.toArray w := by
  unfold places at hpl
  rw [ht] at hpl
  have h1 := run_places (P := P) (w := w) fs.toList pl hpl
  rw [Array.mapM_eq_mapM_toList, Sem.run_map, h1]
  rfl
 have hb : (Instr.build t (parts.toArray.map fun (i, x) => (i, a.eval x))).run P w = .ok (.agg cs) w := by
  unfold Instr.build
  simp only [Sem.run_bind, run_tze hzz, run_underlying ht, Result.andThen_ok]
  rw [hm, Result.andThen_ok]
  simp at hc
  simp [he, hc]
 simp [ho]
 simp at hb
 simp [hb]
theorem run_newRow {P : Program} (e : TypeId) (cs : Array Value) (w : World) : (newRow e cs).run P w = .ok ⟨w.heap.size, 0, none⟩ (w.alloc (.cells cs e)) := by
 unfold newRow newObj World.alloc
 rfl
theorem parts_eval {fr : Fr} {a : Act} (ha : FrOk fr a) : ∀ {parts : List (Nat × Operand)} {vs : List (Nat × Value)}, parts.map (fun p => (p.1, fr.ev p.2)) = vs.map (fun p => (p.1, some p.2)) → parts.map (fun p => (p.1, a.eval p.2)) = vs
 | [], vs, hp => by cases vs <;> simp_all
 | p :: ps, [], hp => by simp at hp
 | p :: ps, q :: qs, hp => by
  simp only [List.map_cons, List.cons.injEq, Prod.mk.injEq] at hp
  rw [List.map_cons, parts_eval ha hp.2, ha.ev hp.1.2, hp.1.1]
theorem S_buildSlice (d : Option Tmp) (k : Nat) {t e : TypeId} {n sz : Nat} {z : Value} {parts : List (Nat × Operand)} {vs : List (Nat × Value)} {cs : List Value} {K : Fr → Hp → Prop} (ho : o.op = .buildSlice t n parts.toArray) (ht : P.underlying t = some (.slice e)) (hz : tsz P e = some sz) (hzz : tze P e = some z) (hn : n * sz ≤ 2 ^ 24) (h0 : n * sz ≠ 0)
  (hp : parts.map (fun p => (p.1, fr.ev p.2)) = vs.map (fun p => (p.1, some p.2)))
  (hc : Instr.fill (fun i => some (i * sz, sz)) ((Array.range (n * sz)).map (z.cells[· % z.cells.size]!)) vs = some cs.toArray)
  (h : ∀ b, K (fr.put E.n d (.slice (some ⟨b, 0, none⟩) n n)) (H.set k ⟨true, b, 0, e, cs, 0⟩)) (hd : o.dst = d := by rfl) : SStep P E false fr H o K := by
 subst hd
 intro a w R
 have he := parts_eval R.fr hp
 have hb : (Instr.buildSlice t n (parts.toArray.map fun (i, x) => (i, a.eval x))).run P w = .ok (.slice (some ⟨w.heap.size, 0, none⟩) n n) (w.alloc (.cells cs.toArray e)) := by
  unfold Instr.buildSlice
  simp only [Sem.run_bind, run_tze hzz, run_underlying ht, Result.andThen_ok, run_tsz hz]
  rw [if_neg (by omega), if_neg h0]
  simp only [Sem.run_bind, run_tze hzz, Result.andThen_ok, Sem.run_pure]
  have hv : (parts.toArray.map fun (i, x) => (i, a.eval x)).toList = vs := by simpa using he
  rw [hv, hc]
  simp [run_newRow]
 have hrun : (execOp a.eval o).run P w = .ok (.value (.slice (some ⟨w.heap.size, 0, none⟩) n n)) (w.alloc (.cells cs.toArray e)) := by
  unfold execOp
  simp only [ho, Sem.run_bind, Sem.run_pure]
  rw [hb]
  rfl
 unfold Oper.wp
 rw [hrun]
 have hb : Below w.heap.size w (w.alloc (.cells cs.toArray e)) := (Below.refl _ _).alloc (Nat.le_refl _) _
 refine ⟨fun _ => hb, _, _, h w.heap.size, ?_⟩
 have R' := R.put o.dst (.slice (some ⟨w.heap.size, 0, none⟩) n n)
 exact ⟨R'.df, R'.size, R'.fr, R.chg.trans (Chg.of_below hb), R.heap.alloc R.chg k cs.toArray e⟩
/-- An empty one. -/
theorem S_buildSlice0 (d : Option Tmp) (k : Nat) {t e : TypeId} {sz : Nat} {K : Fr → Hp → Prop} (ho : o.op = .buildSlice t 0 #[]) (ht : P.underlying t = some (.slice e)) (hz : tsz P e = some sz)
  (h : ∀ b, K (fr.put E.n d (.slice (some ⟨b, 0, none⟩) 0 0)) (H.set k ⟨true, b, 0, e, [], 0⟩)) (hd : o.dst = d := by rfl) : SStep P E false fr H o K := by
 subst hd
 intro a w R
 have hrun : (execOp a.eval o).run P w = .ok (.value (.slice (some ⟨w.heap.size, 0, none⟩) 0 0)) (w.alloc (.cells #[] e)) := by
  unfold execOp
  simp [ho, Instr.buildSlice, run_underlying ht, run_tsz hz, Instr.fill, run_newRow, Array.range_zero']
 unfold Oper.wp
 rw [hrun]
 have hb : Below w.heap.size w (w.alloc (.cells #[] e)) := (Below.refl _ _).alloc (Nat.le_refl _) _
 refine ⟨fun _ => hb, _, _, h w.heap.size, ?_⟩
 have R' := R.put o.dst (.slice (some ⟨w.heap.size, 0, none⟩) 0 0)
 exact ⟨R'.df, R'.size, R'.fr, R.chg.trans (Chg.of_below hb), R.heap.alloc R.chg k #[] e⟩
/-! ### append -/
/-- What an append puts behind: m cells, from wherever they come. -/
def Src (P : Program) (E : Env) (fr : Fr) (H : Hp) (sz : Nat) (y : Operand) (m : Nat) (news : List Value) : Prop :=
 ∀ a w, Rep E fr H a w → (Builtin.lenOf (a.eval y)).run P w = .ok m w ∧ (Builtin.firstCells sz m (a.eval y)).run P w = .ok news.toArray w ∧ news.length = m * sz
theorem Src.nil {sz c : Nat} (hy : fr.ev y = some (.slice none 0 c)) : Src P E fr H sz y 0 [] := by
 intro a w R
 rw [R.ev hy]
 simp [Builtin.lenOf, Builtin.firstCells]
theorem Src.row {sz m c b q k j : Nat} {A : Option Addr} {r : Row} {news : List Value} (hy : fr.ev y = some (.slice A m c)) (hA : 0 < m → A = some ⟨b, q, none⟩) (hk : 0 < m → H k = some r ∧ r.b = b ∧ r.s + j = q) (hn : (r.cells.drop j).take (m * sz) = news) (hl : news.length = m * sz) : Src P E fr H sz y m news := by
 intro a w R
 rw [R.ev hy]
 refine ⟨by simp [Builtin.lenOf], ?_, hl⟩
 by_cases h0 : m = 0
 ·
  subst h0
  have : news = [] := List.eq_nil_of_length_eq_zero (by simpa using hl)
  subst this
  cases A <;> simp [Builtin.firstCells, loadCells, loadCellsFrom]
 ·
  obtain ⟨h1, h2, h3⟩ := hk (by omega)
  rw [hA (by omega)]
  subst h2 h3
  have := run_loadCells_list (P := P) (w := w) ⟨r.b, r.s + j, none⟩ news (fun i v hi => by
   rw [add_addr, Nat.add_assoc]
   refine R.heap.cell R.chg h1 ?_
   rw [← hn, List.getElem?_take] at hi
   rw [← List.getElem?_drop]
   split at hi
   · exact hi
   · cases hi)
  rw [hl] at this
  simp [Builtin.firstCells, this]
theorem Src.str {s : ByteArray} (hy : fr.ev y = some (.string s)) : Src P E fr H 1 y s.size (s.data.toList.map fun b => .int .u8 b.toNat) := by
 intro a w R
 rw [R.ev hy]
 refine ⟨by simp [Builtin.lenOf], ?_, by simp⟩
 simp only [Builtin.firstCells, Sem.run_pure]
 congr 1
 apply Array.ext'
 simp
theorem size_zeroCells' (z : Array Value) (n : Nat) : (Builtin.zeroCells z n).size = n * z.size := by simp [Builtin.zeroCells]
theorem run_append_room {t tx ty e : TypeId} {D : TypeDesc} {sz n c m : Nat} {A : Option Addr} {yv : Value} {news : List Value} {w w' : World} (ht : P.underlying t = some (.slice e)) (htx : P.underlying tx = some D) (hD : D = .string ∨ ∃ e', D = .slice e') (hz : tsz P e = some sz)
  (s1 : (Builtin.lenOf yv).run P w = .ok m w) (s2 : (Builtin.firstCells sz m yv).run P w = .ok news.toArray w) (hroom : n + m ≤ c)
  (hst : (match A with | some a => storeCells (a.add (n * sz)) news | none => pure ()).run P w = .ok () w') :
  (Builtin.append_ #[t, tx] ty #[.slice A n c, yv]).run P w = .ok (.slice A (n + m) c) w' := by
 rcases hD with rfl | ⟨e', rfl⟩
 all_goals
  cases A with
  | none =>
   have hw : w = w' := by simpa using hst
   subst hw
   simp [Builtin.append_, run_underlying ht, run_underlying htx, run_tsz hz, s1, s2, hroom]
  | some a =>
   dsimp only at hst
   simp [Builtin.append_, run_underlying ht, run_underlying htx, run_tsz hz, s1, s2, hroom, hst]
theorem run_append_grow {t tx ty e : TypeId} {D : TypeDesc} {sz by_ n c m : Nat} {A : Option Addr} {yv z : Value} {olds news : List Value} {w : World} (ht : P.underlying t = some (.slice e)) (htx : P.underlying tx = some D) (hD : D = .string ∨ ∃ e', D = .slice e') (hz : tsz P e = some sz) (hby : tby P e = some by_) (hzz : tze P e = some z)
  (s1 : (Builtin.lenOf yv).run P w = .ok m w) (s2 : (Builtin.firstCells sz m yv).run P w.drew = .ok news.toArray w.drew) (s3 : (Builtin.firstCells sz n (.slice A n c)).run P w.drew = .ok olds.toArray w.drew) (hroom : c < n + m)
  (hmax : n + m ≤ 140737488355328) (hbytes : (n + m) * by_ ≤ 140737488355328) :
  ∃ c', n + m ≤ c' ∧ (Builtin.append_ #[t, tx] ty #[.slice A n c, yv]).run P w = .ok (.slice (some ⟨w.heap.size, 0, none⟩) (n + m) c') (w.drew.alloc (.cells (olds.toArray ++ news.toArray ++ Builtin.zeroCells z.cells (c' - (n + m))) e)) := by
 obtain ⟨it, hi0, hi1⟩ := Option.map_eq_some_iff.1 (show (P.info? e).map (·.bytes) = _ from hby)
 have hn : ¬ (n + m ≤ c) := by omega
 have h63 : ¬ (9223372036854775807 < ((n : Int) + (m : Int))) := by omega
 have h48 := growslice_fits hroom hbytes
 have h48' : ¬ (281474976710656 < Builtin.nextslicecap (n + m) c * it.bytes) := by rw [hi1]; omega
 refine ⟨grownCap w (n + m) c e, grownCap_ge _ _ _ _, ?_⟩
 rcases hD with rfl | ⟨e', rfl⟩
 ·
  simp [Builtin.append_, run_underlying ht, run_underlying htx, run_tsz hz, run_tze hzz, typeInfo, hi0, s1, s2, s3, hn, h63, h48', Question.forced, newRow, grownCap]
  congr 2; apply Array.ext'; simp
 ·
  simp [Builtin.append_, run_underlying ht, run_underlying htx, run_tsz hz, run_tze hzz, typeInfo, hi0, s1, s2, s3, hn, h63, h48', Question.forced, newRow, grownCap]
  congr 2; apply Array.ext'; simp
theorem exec_append {t tx : TypeId} (ho : o.op = .call ⟨.builtin .append, #[x, y], #[t, tx]⟩) {a : Act} {r : Value} {w w' : World} (h : (Builtin.append_ #[t, tx] o.type #[a.eval x, a.eval y]).run P w = .ok r w') : (execOp a.eval o).run P w = .ok (.value r) w' := by
 unfold execOp
 simp [ho, resolve, invoke, builtin, h]
theorem HR.empty {w : World} (h : HR E H w) (k b : Nat) (t : TypeId) : HR E (H.set k ⟨true, b, 0, t, [], 0⟩) w := by
 refine ⟨fun i r hr => ?_, fun i j r r' hr hr' ho ho' hij hz hz' => ?_⟩
 ·
  rcases Hp.set_some hr with ⟨rfl, rfl⟩ | ⟨_, hr⟩
  · exact ⟨Or.inl rfl, fun h => absurd rfl h⟩
  · exact h.row i r hr
 ·
  rcases Hp.set_some hr with ⟨e1, e2⟩ | ⟨h1, hr1⟩ <;> rcases Hp.set_some hr' with ⟨e3, e4⟩ | ⟨h2, hr2⟩
  · exact absurd (e1.trans e3.symm) hij
  · subst e2; exact absurd rfl hz
  · subst e4; exact absurd rfl hz'
  · exact h.apart i j r r' hr1 hr2 ho ho' hij hz hz'
/-- append: the block that was there, or a new one. -/
theorem S_append (d : Option Tmp) (k : Nat) {t tx e : TypeId} {D : TypeDesc} {sz by_ b n c m rest : Nat} {A : Option Addr} {z : Value} {cells news : List Value} {K : Fr → Hp → Prop}
  (ho : o.op = .call ⟨.builtin .append, #[x, y], #[t, tx]⟩) (ht : P.underlying t = some (.slice e)) (htx : P.underlying tx = some D) (hD : D = .string ∨ ∃ e', D = .slice e') (hz : tsz P e = some sz) (hby : tby P e = some by_) (hzz : tze P e = some z) (hzc : z.cells.size = sz)
  (hx : fr.ev x = some (.slice A n c)) (hk : 0 < c → A = some ⟨b, 0, none⟩ ∧ H k = some ⟨true, b, 0, e, cells, rest⟩) (hlen : cells.length = n * sz) (hcap : n * sz + rest = c * sz) (hnc : n ≤ c)
  (hs : Src P E fr H sz y m news) (h1 : ∀ u ∈ news, u.oneCell' = true) (hsz : 0 < sz) (hmax : n + m ≤ 140737488355328) (hbytes : (n + m) * by_ ≤ 140737488355328)
  (h : ∀ (A' : Option Addr) (b' c' : Nat), (0 < c' → A' = some ⟨b', 0, none⟩) → n + m ≤ c' → K (fr.put E.n d (.slice A' (n + m) c')) (H.set k ⟨true, b', 0, e, cells ++ news, (c' - (n + m)) * sz⟩)) (hd : o.dst = d := by rfl) : SStep P E true fr H o K := by
 subst hd
 intro a w R
 obtain ⟨s1, s2, s3⟩ := hs a w R
 by_cases hroom : n + m ≤ c
 ·
  by_cases hc0 : c = 0
  ·
   subst hc0
   have hn0 : n = 0 := by omega
   have hm0 : m = 0 := by omega
   subst hn0 hm0
   have hnews : news = [] := List.eq_nil_of_length_eq_zero (by simpa using s3)
   have hcells : cells = [] := List.eq_nil_of_length_eq_zero (by simpa using hlen)
   subst hnews hcells
   have hrun := exec_append ho (a := a) (P := P) (w := w) (by
    rw [R.ev hx]
    exact run_append_room (D := D) ht htx hD hz s1 s2 hroom (w' := w) (by cases A <;> rfl))
   unfold Oper.wp
   rw [hrun]
   refine ⟨fun hh => (by cases hh), _, _, h A w.heap.size 0 (fun h => absurd h (by omega)) (Nat.le_refl _), ?_⟩
   have R' := R.put o.dst (.slice A 0 0)
   refine ⟨R'.df, R'.size, R'.fr, R.chg, ?_⟩
   simpa using R.heap.empty k w.heap.size e
  ·
   obtain ⟨hA, hH⟩ := hk (by omega)
   have hcs : 0 < c * sz := Nat.mul_pos (by omega) hsz
   have hz0 : cells.length + rest ≠ 0 := by omega
   have hms : (n + m) * sz ≤ c * sz := Nat.mul_le_mul_right _ hroom
   rw [Nat.add_mul] at hms
   obtain ⟨_, e2, e3, tl, fz, e4, e5, e6⟩ := R.heap.own_ hH rfl hz0
   dsimp only at e2 e3 e4 e5 e6
   obtain ⟨w', r1, r2, r3⟩ := run_stores (P := P) b (n * sz) e fz news 0 (cells ++ tl) w e6 (by simp; omega) (by rcases e5 with e5 | e5; exact Or.inl e5; right; simp; omega) h1
   have hrun := exec_append ho (a := a) (P := P) (w := w) (by
    rw [R.ev hx]
    exact run_append_room (D := D) (A := A) ht htx hD hz s1 s2 hroom (w' := w') (by
     subst hA
     dsimp only
     rw [add_addr, Nat.zero_add]
     exact r1))
   unfold Oper.wp
   rw [hrun]
   refine ⟨fun hh => (by cases hh), _, _, h A b c (fun _ => hA) hroom, ?_⟩
   have R' := R.put o.dst (.slice A (n + m) c)
   refine ⟨R'.df, R'.size, R'.fr, R.chg.trans_new r2 ?_, ?_⟩
   ·
    intro q hq
    obtain rfl : q = b := by simpa using hq
    exact e3
   ·
    have hsub : (c - (n + m)) * sz = c * sz - (n * sz + m * sz) := by rw [Nat.sub_mul, Nat.add_mul]
    refine R.heap.write (r := ⟨true, b, 0, e, cells, rest⟩) hH rfl hz0 (by dsimp only; rw [List.length_append, s3, hsub]; omega) r2 fun tl' fz' ht' hh' => ?_
    dsimp only at hh' ht' ⊢
    rw [e6] at hh'
    simp only [Option.some.injEq, Obj.cells.injEq] at hh'
    obtain ⟨g1, _, g3⟩ := hh'
    have g1 : cells ++ tl = cells ++ tl' := by simpa using g1
    have g1 := List.append_cancel_left g1
    subst g1 g3
    refine ⟨tl.drop (m * sz), by rw [List.length_drop, e4, hsub]; omega, ?_⟩
    rw [r3, Nat.add_zero]
    have : splice (cells ++ tl) (n * sz) news = cells ++ news ++ tl.drop (m * sz) := by
     unfold splice
     rw [← hlen, List.take_left, List.drop_append, List.drop_eq_nil_of_le (by omega), s3]
     simp [hlen]
    rw [this]
 ·
  have hold : (Builtin.firstCells sz n (.slice A n c)).run P w.drew = .ok cells.toArray w.drew := by
   by_cases hc0 : c = 0
   ·
    subst hc0
    have hn0 : n = 0 := by omega
    subst hn0
    have hcells : cells = [] := List.eq_nil_of_length_eq_zero (by simpa using hlen)
    subst hcells
    cases A <;> simp [Builtin.firstCells, loadCells, loadCellsFrom]
   ·
    obtain ⟨hA, hH⟩ := hk (by omega)
    subst hA
    have := run_loadCells_list (P := P) (w := w.drew) ⟨b, 0, none⟩ cells (fun i v hi => by
     rw [add_addr]
     exact R.drew.heap.cell R.drew.chg hH hi)
    rw [hlen] at this
    simp [Builtin.firstCells, this]
  obtain ⟨c', hc', hr⟩ := run_append_grow (P := P) (ty := o.type) (A := A) ht htx hD hz hby hzz s1 (hs a w.drew R.drew).2.1 hold (by omega) hmax hbytes
  have hrun := exec_append ho (a := a) (P := P) (w := w) (by rw [R.ev hx]; exact hr)
  unfold Oper.wp
  rw [hrun]
  refine ⟨fun hh => (by cases hh), _, _, h (some ⟨w.heap.size, 0, none⟩) w.heap.size c' (fun _ => rfl) hc', ?_⟩
  have R' := R.put o.dst (.slice (some ⟨w.heap.size, 0, none⟩) (n + m) c')
  have hb : Below w.heap.size w (w.drew.alloc (.cells (cells.toArray ++ news.toArray ++ Builtin.zeroCells z.cells (c' - (n + m))) e)) := (Below.refl _ _).drew.alloc (Nat.le_refl _) _
  refine ⟨R'.df, R'.size, R'.fr, R.chg.trans (Chg.of_below hb), ?_⟩
  have := R.heap.new R.chg hb k (cells ++ news) (Builtin.zeroCells z.cells (c' - (n + m))).toList e (0, 0) (Or.inl rfl) w.heap.size (Nat.le_refl _) (by simp) (by
   have := heap_alloc_new w.drew (.cells (cells.toArray ++ news.toArray ++ Builtin.zeroCells z.cells (c' - (n + m))) e)
   rw [World.size_drew] at this
   rw [this]
   simp)
  rw [Array.length_toList, size_zeroCells', hzc] at this
  exact this
end
end SE
end Go


/- More of the walk: branches of guards, loops, blocks, pointers held against nil, cells of one kind; copies; strings. -/
namespace Go
namespace SE
open Go.RowKit
set_option linter.unusedVariables false
set_option linter.unusedSimpArgs false
section
variable {P : Program} {E : Env} {fr : Fr} {H : Hp} {o : Oper} {t ty : TypeId} {x y : Operand} {v : Value} {Q : Exit → Act → World → Prop}
theorem At.gsplit {T : Act → World → Prop} {t : Tmp} {want bb : Bool} (hb : fr t = some (.bool bb)) (h1 : bb = want → At E fr H T) (h2 : (bb = !want) → At E fr H T) : At E fr H T := by
 cases bb <;> cases want
 · exact h1 rfl
 · exact h2 rfl
 · exact h2 rfl
 · exact h1 rfl
theorem wanted_un {ops : Array Oper} {a : Act} {w : World} {j : Nat} {want : Bool} (hg : o.guard = some (j, want)) {t : Tmp} (hj : (ops[j]?).bind (·.dst) = some t) (hb : fr t = some undef) (R : Rep E fr H a w) :
  Region.wanted o (yielded ops a.tmps) = false := by
 have h1 := R.fr t _ hb
 simp only [Region.wanted, hg, yielded, hj, Option.bind_some, h1]
 rfl
/-- A guarded operation whose guard itself did not come. -/
theorem At.gu {ops : Array Oper} {rest : List Oper} (d : Option Tmp) {j : Nat} {want : Bool} {t : Tmp} (hb : fr t = some undef) (hg : o.guard = some (j, want)) (hj : (ops[j]?).bind (·.dst) = some t)
  (h : At E (fr.put E.n d undef) H (wpList P ops Q rest)) (hd : o.dst = d := by rfl) : At E fr H (wpList P ops Q (o :: rest)) := by
 intro a w R
 subst hd
 have h1 := wanted_un (E := E) (H := H) hg hj hb R
 have h2 := h _ w (R.put o.dst undef)
 unfold wpList
 rw [h1]
 simpa using h2
theorem At.loopx {c : Code} {I : Nat → Fr → Hp → Prop} (h0 : ∀ K : Act → World → Prop, (∀ m fr H, I m fr H → At E fr H K) → At E fr H K)
  (h : ∀ m fr H, I m fr H → ∀ K : Act → World → Prop, (∀ m' fr' H', m' < m → I m' fr' H' → At E fr' H' K) → At E fr H (c.wp P (Exit.then K Q))) : At E fr H ((Code.loop c).wp P Q) :=
 h0 _ fun m fr H hI => At.loop I m hI h
theorem At.thn_e {K : Act → World → Prop} {i : Nat} (h : At E fr H (Q (.exit i))) : At E fr H (Exit.then K Q (.exit i)) := h
theorem At.thn_r {K : Act → World → Prop} (h : At E fr H (Q .ret)) : At E fr H (Exit.then K Q .ret) := h
theorem At.inb_n {id : Nat} (h : At E fr H (Q .normal)) : At E fr H (Exit.inBlock id Q .normal) := h
theorem At.inb_r {id : Nat} (h : At E fr H (Q .ret)) : At E fr H (Exit.inBlock id Q .ret) := h
theorem At.inb_hit {id : Nat} (h : At E fr H (Q .normal)) : At E fr H (Exit.inBlock id Q (.exit id)) := fun a w r => by
 simp only [Exit.inBlock, if_true]; exact h a w r
theorem P_eql_ptr {tp e : TypeId} {p : Option Addr} (ho : o.op = .binOp .eql tp x y ty) (hx : fr.ev x = some (.pointer p)) (hy : fr.ev y = some (.pointer none)) (hp : P.underlying tp = some (.pointer e)) : PStep P fr o (.bool p.isNone) := by
 intro a ha w
 have h : (Op.equal tp (.pointer p) (.pointer none)).run P w = .ok p.isNone w := by
  have h : ∀ d, (Op.equalIn (d + 1) tp (.pointer p) (.pointer none)).run P w = .ok p.isNone w := fun d => by cases p <;> simp [Op.equalIn, run_underlying hp]
  exact h 9999
 unfold execOp
 cases p <;> simp at h <;> simp [ho, ha.ev hx, ha.ev hy, eqGuard, binOp, h]
theorem P_neq_ptr {tp e : TypeId} {p : Option Addr} (ho : o.op = .binOp .neq tp x y ty) (hx : fr.ev x = some (.pointer p)) (hy : fr.ev y = some (.pointer none)) (hp : P.underlying tp = some (.pointer e)) : PStep P fr o (.bool p.isSome) := by
 intro a ha w
 have h : (Op.equal tp (.pointer p) (.pointer none)).run P w = .ok p.isNone w := by
  have h : ∀ d, (Op.equalIn (d + 1) tp (.pointer p) (.pointer none)).run P w = .ok p.isNone w := fun d => by cases p <;> simp [Op.equalIn, run_underlying hp]
  exact h 9999
 unfold execOp
 cases p <;> simp at h <;> simp [ho, ha.ev hx, ha.ev hy, eqGuard, binOp, h]
theorem P_indexM {t e : TypeId} {len j n : Nat} {l : List (BitVec n)} {kk k : IntKind} {i : Int} {ix : Operand} {D : TypeDesc} (d : BitVec n) (ho : o.op = .index t x ix) (ht : P.underlying t = some (.array len e)) (hz : tsz P e = some 1) (hD : P.underlying e = some D) (hx : fr.ev x = some (.agg (l.map fun b => Value.int kk (b.toNat : Int)).toArray)) (hi : fr.ev ix = some (.int k i)) (hj : i = (j : Int)) (hlt : j < len) (hl : len ≤ l.length)
  (hd : aggD D = false := by rfl) : PStep P fr o (.int kk ((l.getD j d).toNat : Int)) :=
 P_index_arr ho ht hz hD (by rintro fs rfl; cases hd) (by rintro n e' rfl; cases hd) hx hi hj hlt (by
  have : j < l.length := by omega
  simp [this])
end
end SE
end Go


/- Contracts over rows, and how a caller uses them. -/
namespace Go
namespace SE
open Go.RowKit
set_option linter.unusedVariables false
set_option linter.unusedSimpArgs false

def hL (rows : List Row) : Hp := fun k => rows[k]?
/-- The blocks of rows that may be written. -/
def ownB (rows : List Row) : List Nat := (rows.filter fun r => r.own && decide (r.cells.length + r.rest ≠ 0)).map (·.b)
theorem mem_ownB {rows : List Row} {b : Nat} : b ∈ ownB rows ↔ ∃ r ∈ rows, r.own = true ∧ r.cells.length + r.rest ≠ 0 ∧ r.b = b := by
 unfold ownB
 simp only [List.mem_map, List.mem_filter, Bool.and_eq_true, decide_eq_true_eq]
 constructor
 · rintro ⟨r, ⟨h1, h2, h3⟩, h4⟩; exact ⟨r, h1, h2, h3, h4⟩
 · rintro ⟨r, h1, h2, h3, h4⟩; exact ⟨r, ⟨h1, h2, h3⟩, h4⟩

/-- What a call with these rows at hand does. -/
def Con (P : Program) (f : FuncId) (args : List Value) (rows : List Row) (post : Value → List Row → Prop) : Prop :=
 ∀ w, HR ⟨w, ownB rows, 0, []⟩ (hL rows) w → Calls P f args.toArray w fun e w' => ∃ v rows', e = .returned v ∧ post v rows' ∧ Chg (ownB rows) w w' ∧ (∀ r ∈ rows', r.own = true) ∧ HR ⟨w, ownB rows, 0, []⟩ (hL rows') w'

theorem Con.mono {P : Program} {f : FuncId} {args : List Value} {rows : List Row} {post post' : Value → List Row → Prop} (h : Con P f args rows post) (hp : ∀ v rs, post v rs → post' v rs) : Con P f args rows post' :=
 fun w hw => (h w hw).mono fun e w' ⟨v, rs, h1, h2, h3⟩ => ⟨v, rs, h1, hp v rs h2, h3⟩
/-- r' shows a part of r, to be read. -/
def View (r r' : Row) : Prop := r'.own = false ∧ r'.b = r.b ∧ ∃ j, r'.s = r.s + j ∧ ∀ i v, r'.cells[i]? = some v → r.cells[j + i]? = some v
theorem View.all {b s t rest : Nat} {ow : Bool} {cs : List Value} {ty ty' : TypeId} : View ⟨ow, b, s, ty, cs, rest⟩ ⟨false, b, s, ty', cs, t⟩ := ⟨rfl, rfl, 0, rfl, fun i v h => by rwa [Nat.zero_add]⟩
theorem View.part {b s j m t rest : Nat} {ow : Bool} {cs : List Value} {ty ty' : TypeId} : View ⟨ow, b, s, ty, cs, rest⟩ ⟨false, b, s + j, ty', (cs.drop j).take m, t⟩ := ⟨rfl, rfl, j, rfl, fun i v h => by
 rw [List.getElem?_take] at h
 split at h
 · rwa [List.getElem?_drop] at h
 · cases h⟩

def Hp.dels (H : Hp) : List Nat → Hp
 | [] => H
 | k :: l => (H.del k).dels l
def Hp.sets (H : Hp) : List Nat → List Row → Hp
 | k :: l, r :: rs => (H.set k r).sets l rs
 | _, _ => H
theorem nodup_inj {α : Type} : ∀ {l : List α} {i j : Nat} {x : α}, l.Nodup → l[i]? = some x → l[j]? = some x → i = j
 | [], i, j, x, _, h, _ => by simp at h
 | a :: l, 0, 0, x, _, _, _ => rfl
 | a :: l, 0, j + 1, x, hd, h, h' => by
  have h1 : a = x := by simpa using h
  have h2 : x ∈ l := List.mem_of_getElem? (by simpa using h')
  exact absurd (h1 ▸ h2) (List.nodup_cons.1 hd).1
 | a :: l, i + 1, 0, x, hd, h, h' => by
  have h1 : a = x := by simpa using h'
  have h2 : x ∈ l := List.mem_of_getElem? (by simpa using h)
  exact absurd (h1 ▸ h2) (List.nodup_cons.1 hd).1
 | a :: l, i + 1, j + 1, x, hd, h, h' => by
  exact congrArg (· + 1) (nodup_inj (l := l) (List.nodup_cons.1 hd).2 (by simpa using h) (by simpa using h'))
theorem Hp.dels_some {k : Nat} {r : Row} : ∀ {l : List Nat} {H : Hp}, H.dels l k = some r → k ∉ l ∧ H k = some r
 | [], H, h => ⟨by simp, h⟩
 | d :: l, H, h => by
  obtain ⟨h1, h2⟩ := Hp.dels_some (l := l) (H := H.del d) h
  obtain ⟨h3, h4⟩ := Hp.del_some h2
  exact ⟨by simp [h3, h1], h4⟩
theorem Hp.sets_some {k : Nat} {r : Row} : ∀ {l : List Nat} {rs : List Row} {H : Hp}, l.length = rs.length → l.Nodup → H.sets l rs k = some r → (∃ i : Nat, l[i]? = some k ∧ rs[i]? = some r) ∨ (k ∉ l ∧ H k = some r)
 | [], [], H, _, _, h => Or.inr ⟨by simp, h⟩
 | d :: l, x :: rs, H, hl, hd, h => by
  rcases Hp.sets_some (l := l) (rs := rs) (H := H.set d x) (by simpa using hl) (List.nodup_cons.1 hd).2 h with ⟨i, h1, h2⟩ | ⟨h1, h2⟩
  · exact Or.inl ⟨i + 1, by simpa using h1, by simpa using h2⟩
  ·
   rcases Hp.set_some h2 with ⟨rfl, rfl⟩ | ⟨h3, h4⟩
   · exact Or.inl ⟨0, rfl, rfl⟩
   · exact Or.inr ⟨by simp [h3, h1], h4⟩
 | [], _ :: _, _, hl, _, _ => by simp at hl
 | _ :: _, [], _, hl, _, _ => by simp at hl

section
variable {E : Env} {H : Hp} {w w' : World}
theorem HR.lift (h : HR E H w) (hc : Chg E.S E.W0 w) (owns views : List (Nat × Row)) (ho : ∀ p ∈ owns, H p.1 = some p.2 ∧ p.2.own = true) (hd : (owns.map (·.1)).Nodup)
  (hv : ∀ p ∈ views, p.2.cells = [] ∧ p.2.own = false ∨ p.1 ∉ owns.map (·.1) ∧ ∃ r, H p.1 = some r ∧ View r p.2) :
  HR ⟨w, ownB (owns.map (·.2) ++ views.map (·.2)), 0, []⟩ (hL (owns.map (·.2) ++ views.map (·.2))) w := by
 have hvo : ∀ p ∈ views, p.2.own = false := fun p hp => by
  rcases hv p hp with h1 | ⟨_, r, _, h3, _⟩
  · exact h1.2
  · exact h3
 have hmem : ∀ k r, hL (owns.map (·.2) ++ views.map (·.2)) k = some r → (∃ p, owns[k]? = some p ∧ p.2 = r) ∨ (∃ p ∈ views, p.2 = r) := fun k r hk => by
  unfold hL at hk
  rw [List.getElem?_append] at hk
  split at hk
  ·
   rw [List.getElem?_map, Option.map_eq_some_iff] at hk
   exact Or.inl hk
  ·
   obtain ⟨p, hp, hpr⟩ := List.mem_map.1 (List.mem_of_getElem? hk)
   exact Or.inr ⟨p, hp, hpr⟩
 refine ⟨fun k r hk => ?_, fun k k' r r' hk hk' ho1 ho2 hne hz hz' => ?_⟩
 ·
  rcases hmem k r hk with ⟨p, hp, rfl⟩ | ⟨p, hp, rfl⟩
  ·
   have hpm := List.mem_of_getElem? hp
   obtain ⟨h1, h2⟩ := ho p hpm
   have h3 := h.row p.1 p.2 h1
   unfold RowR at h3 ⊢
   rw [h2] at h3 ⊢
   refine ⟨h3.1, fun hz => ?_⟩
   obtain ⟨g1, g2, g3⟩ := h3.2 hz
   exact ⟨g1, Or.inl (mem_ownB.2 ⟨p.2, List.mem_append_left _ (List.mem_map.2 ⟨p, hpm, rfl⟩), h2, hz, rfl⟩), g3⟩
  ·
   unfold RowR
   rw [hvo p hp]
   intro hne
   rcases hv p hp with h1 | ⟨h1, r, h2, h3, h4, j, h5, h6⟩
   · exact absurd h1.1 hne
   ·
    obtain ⟨v0, hv0⟩ : ∃ v0, p.2.cells[0]? = some v0 := by
     cases hcs : p.2.cells with
     | nil => exact absurd hcs hne
     | cons a l => exact ⟨a, by simp⟩
    have hr0 := h6 0 v0 hv0
    have hlt : j + 0 < r.cells.length := (List.getElem?_eq_some_iff.1 hr0).1
    refine ⟨?_, ?_, fun i v hi => ?_⟩
    ·
     dsimp only
     rw [h4]
     cases hro : r.own with
     | true => exact (h.ownB_ h2 hro (by omega)).1
     | false =>
      have h7 := h.row p.1 r h2
      unfold RowR at h7
      rw [hro] at h7
      have h8 := (h7 (by rintro he; rw [he] at hlt; simp at hlt)).1
      exact Nat.lt_of_lt_of_le h8 hc.size
    ·
     dsimp only
     intro hm
     obtain ⟨q, hq, q1, q2, q3⟩ := mem_ownB.1 hm
     rcases List.mem_append.1 hq with hq | hq
     ·
      obtain ⟨z, hz1, rfl⟩ := List.mem_map.1 hq
      obtain ⟨z2, z3⟩ := ho z hz1
      have hzk : z.1 ≠ p.1 := fun he => h1 (he ▸ List.mem_map.2 ⟨z, hz1, rfl⟩)
      cases hro : r.own with
      | true => exact h.apart z.1 p.1 z.2 r z2 h2 z3 hro hzk q2 (by omega) (by rw [q3, h4])
      | false =>
       have h7 := h.row p.1 r h2
       unfold RowR at h7
       rw [hro] at h7
       obtain ⟨h8, h9, _⟩ := h7 (by rintro he; rw [he] at hlt; simp at hlt)
       obtain ⟨_, g3, _⟩ := h.ownB_ z2 z3 q2
       rw [q3, h4] at g3
       rcases g3 with g3 | g3
       · exact h9 g3
       · omega
     ·
      obtain ⟨z, hz1, rfl⟩ := List.mem_map.1 hq
      rw [hvo z hz1] at q1
      cases q1
    ·
     dsimp only
     rw [h4, h5, Nat.add_assoc]
     exact h.cell hc h2 (h6 i v hi)
 ·
  rcases hmem k r hk with ⟨p, hp, rfl⟩ | ⟨p, hp, rfl⟩
  ·
   rcases hmem k' r' hk' with ⟨q, hq, rfl⟩ | ⟨q, hq, rfl⟩
   ·
    refine h.apart p.1 q.1 p.2 q.2 (ho p (List.mem_of_getElem? hp)).1 (ho q (List.mem_of_getElem? hq)).1 ho1 ho2 (fun he => hne ?_) hz hz'
    have e1 : (owns.map (·.1))[k]? = some p.1 := by rw [List.getElem?_map, hp]; rfl
    have e2 : (owns.map (·.1))[k']? = some p.1 := by rw [List.getElem?_map, hq, he]; rfl
    exact nodup_inj hd e1 e2
   · rw [hvo q hq] at ho2; cases ho2
  · rw [hvo p hp] at ho1; cases ho1

theorem HR.back (h : HR E H w) (hc : Chg E.S E.W0 w) (owns views : List (Nat × Row)) (ho : ∀ p ∈ owns, H p.1 = some p.2 ∧ p.2.own = true) (hv : ∀ p ∈ views, p.2.own = false)
  {rows' : List Row} (hch : Chg (ownB (owns.map (·.2) ++ views.map (·.2))) w w') (hro : ∀ r ∈ rows', r.own = true) (h' : HR ⟨w, ownB (owns.map (·.2) ++ views.map (·.2)), 0, []⟩ (hL rows') w') (ks : List Nat) (hl : ks.length = rows'.length) (hk : ks.Nodup) :
  HR E ((H.dels (owns.map (·.1))).sets ks rows') w' ∧ Chg E.S E.W0 w' := by
 have hS : ∀ b ∈ ownB (owns.map (·.2) ++ views.map (·.2)), ∃ p ∈ owns, p.2.b = b ∧ p.2.cells.length + p.2.rest ≠ 0 := fun b hb => by
  obtain ⟨q, hq, q1, q2, q3⟩ := mem_ownB.1 hb
  rcases List.mem_append.1 hq with hq | hq
  ·
   obtain ⟨z, hz1, rfl⟩ := List.mem_map.1 hq
   exact ⟨z, hz1, q3, q2⟩
  ·
   obtain ⟨z, hz1, rfl⟩ := List.mem_map.1 hq
   rw [hv z hz1] at q1
   cases q1
 have hS2 : ∀ b ∈ ownB (owns.map (·.2) ++ views.map (·.2)), b ∈ E.S ∨ E.W0.heap.size ≤ b := fun b hb => by
  obtain ⟨p, hp, rfl, hz⟩ := hS b hb
  exact (h.ownB_ (ho p hp).1 (ho p hp).2 hz).2.1
 -- rows of the caller that the call did not get
 have hold : ∀ k r, k ∉ owns.map (·.1) → H k = some r → r.own = true → r.cells.length + r.rest ≠ 0 → r.b ∉ ownB (owns.map (·.2) ++ views.map (·.2)) := fun k r hk0 hr hrow hrz hm => by
  obtain ⟨p, hp, hpb, hz⟩ := hS _ hm
  exact h.apart p.1 k p.2 r (ho p hp).1 hr (ho p hp).2 hrow (fun he => hk0 (he ▸ List.mem_map.2 ⟨p, hp, rfl⟩)) hz hrz hpb
 have hnew : ∀ (i : Nat) (r : Row), rows'[i]? = some r → r.cells.length + r.rest ≠ 0 → (r.b ∈ ownB (owns.map (·.2) ++ views.map (·.2)) ∨ w.heap.size ≤ r.b) := fun i r hr hz =>
  (h'.ownB_ (k := i) hr (hro r (List.mem_of_getElem? hr)) hz).2.1
 have key : ∀ (k : Nat) (r : Row) (i : Nat) (r' : Row), k ∉ owns.map (·.1) → H k = some r → r.own = true → r.cells.length + r.rest ≠ 0 → rows'[i]? = some r' → r'.cells.length + r'.rest ≠ 0 → r.b ≠ r'.b := fun k r i r' hk0 hr hrow hrz hr' hz' he => by
  rcases hnew i r' hr' hz' with h1 | h1
  · exact hold k r hk0 hr hrow hrz (he ▸ h1)
  · have := (h.ownB_ hr hrow hrz).1; omega
 refine ⟨⟨fun k r hkr => ?_, fun k k' r r' hkr hkr' ho1 ho2 hne hz hz' => ?_⟩, hc.trans_new hch hS2⟩
 ·
  rcases Hp.sets_some hl hk hkr with ⟨i, h1, h2⟩ | ⟨_, h2⟩
  ·
   have hrow := h'.row i r h2
   have hown := hro r (List.mem_of_getElem? h2)
   unfold RowR at hrow ⊢
   rw [hown] at hrow ⊢
   refine ⟨hrow.1, fun hz => ?_⟩
   obtain ⟨g1, g2, g3⟩ := hrow.2 hz
   refine ⟨g1, ?_, g3⟩
   rcases g2 with g2 | g2
   · exact hS2 _ g2
   · have := hc.size; exact Or.inr (Nat.le_trans hc.size g2)
  ·
   obtain ⟨h3, h4⟩ := Hp.dels_some h2
   exact (h.row k r h4).chg hch (fun hrow hrz => hold k r h3 h4 hrow hrz)
 ·
  rcases Hp.sets_some hl hk hkr with ⟨i, h1, h2⟩ | ⟨_, h2⟩ <;> rcases Hp.sets_some hl hk hkr' with ⟨i', h1', h2'⟩ | ⟨_, h2'⟩
  · exact h'.apart i i' r r' h2 h2' ho1 ho2 (fun he => hne (by subst he; rw [h1] at h1'; exact Option.some.inj h1')) hz hz'
  ·
   obtain ⟨h3, h4⟩ := Hp.dels_some h2'
   exact fun he => key k' r' i r h3 h4 ho2 hz' h2 hz he.symm
  ·
   obtain ⟨h3, h4⟩ := Hp.dels_some h2
   exact key k r i' r' h3 h4 ho1 hz h2' hz'
  ·
   obtain ⟨h3, h4⟩ := Hp.dels_some h2
   obtain ⟨h3', h4'⟩ := Hp.dels_some h2'
   exact h.apart k k' r r' h4 h4' ho1 ho2 hne hz hz'
end

def OwnsOk (H : Hp) : List (Nat × Row) → Prop := AllL fun p => H p.1 = some p.2 ∧ p.2.own = true
def ViewsOk (H : Hp) (owns : List (Nat × Row)) : List (Nat × Row) → Prop := AllL fun p => p.2.cells = [] ∧ p.2.own = false ∨ p.1 ∉ owns.map (·.1) ∧ ∃ r, H p.1 = some r ∧ View r p.2

theorem AllL.cons_ {α : Type} {p : α → Prop} {x : α} : ∀ {l : List α}, p x → AllL p l → AllL p (x :: l)
 | [], h, _ => h
 | _ :: _, h, t => ⟨h, t⟩
theorem V0 {H : Hp} {owns : List (Nat × Row)} : ViewsOk H owns [] := trivial
theorem VN {H : Hp} {owns l : List (Nat × Row)} {k : Nat} {r r' : Row} (hk : k ∉ owns.map (·.1)) (hH : H k = some r) (hv : View r r') (t : ViewsOk H owns l) : ViewsOk H owns ((k, r') :: l) :=
 AllL.cons_ (Or.inr ⟨hk, r, hH, hv⟩) t
/-- .. of nothing. -/
theorem VE {H : Hp} {owns l : List (Nat × Row)} {k : Nat} {r' : Row} (hc : r'.cells = []) (ho : r'.own = false) (t : ViewsOk H owns l) : ViewsOk H owns ((k, r') :: l) := AllL.cons_ (Or.inl ⟨hc, ho⟩) t
theorem O0 {H : Hp} : OwnsOk H [] := trivial
theorem ON {H : Hp} {l : List (Nat × Row)} {k : Nat} {r : Row} (hH : H k = some r) (ho : r.own = true) (t : OwnsOk H l) : OwnsOk H ((k, r) :: l) := AllL.cons_ ⟨hH, ho⟩ t
section
variable {P : Program} {E : Env} {fr : Fr} {H : Hp} {o : Oper} {v : Value}
/-- A call by its contract. -/
theorem S_callR (d : Option Tmp) (owns views : List (Nat × Row)) (ks : List Nat) {f : FuncId} {xs : List Operand} {tys : Array TypeId} {vs : List Value} {K : Fr → Hp → Prop} {post : Value → List Row → Prop} (ho : o.op = .call ⟨.value (.func f), xs.toArray, tys⟩) (he : entersB P f = true) (ha : ArgsOk fr xs vs)
  (hO : OwnsOk H owns) (hd : (owns.map (·.1)).Nodup) (hV : ViewsOk H owns views) (hk : ks.Nodup)
  (hcon : Con P f vs (owns.map (·.2) ++ views.map (·.2)) post) (hl : ∀ v rows', post v rows' → ks.length = rows'.length)
  (h : ∀ v rows', post v rows' → K (fr.put E.n d v) ((H.dels (owns.map (·.1))).sets ks rows')) (hd : o.dst = d := by rfl) : SStep P E true fr H o K := by
 subst hd
 refine S_call _ ho he ha fun w hw hH => ?_
 refine (hcon w (hH.lift hw owns views hO.mem hd hV.mem)).mono fun e w' ⟨v, rows', h1, h2, h3, h4, h5⟩ => ?_
 have hvo : ∀ p ∈ views, p.2.own = false := fun p hp => by
  rcases hV.mem p hp with h1 | ⟨_, r, _, h3, _⟩
  · exact h1.2
  · exact h3
 obtain ⟨h6, h7⟩ := hH.back hw owns views hO.mem hvo h3 h4 h5 ks (hl v rows' h2) hk
 exact ⟨v, _, h1, fun h => (by cases h), h7, h6, h v rows' h2⟩
theorem ownB_views {l : List Row} (h : ∀ r ∈ l, r.own = false) : ownB l = [] := by
 apply List.eq_nil_iff_forall_not_mem.2
 intro b hb
 obtain ⟨r, h1, h2, _⟩ := mem_ownB.1 hb
 rw [h r h1] at h2
 cases h2
/-- .. of a callee that only reads: it may stand among others in a region that draws. -/
theorem S_callV (d : Option Tmp) (views : List (Nat × Row)) (ks : List Nat) {f : FuncId} {xs : List Operand} {tys : Array TypeId} {vs : List Value} {K : Fr → Hp → Prop} {post : Value → List Row → Prop} (ho : o.op = .call ⟨.value (.func f), xs.toArray, tys⟩) (he : entersB P f = true) (ha : ArgsOk fr xs vs)
  (hV : ViewsOk H [] views) (hk : ks.Nodup)
  (hcon : Con P f vs (views.map (·.2)) post) (hl : ∀ v rows', post v rows' → ks.length = rows'.length)
  (h : ∀ v rows', post v rows' → K (fr.put E.n d v) (H.sets ks rows')) (hd : o.dst = d := by rfl) : SStep P E false fr H o K := by
 subst hd
 refine S_call _ ho he ha fun w hw hH => ?_
 have hl0 := hH.lift hw [] views (by simp) (by simp) hV.mem
 simp only [List.map_nil, List.nil_append] at hl0
 refine (hcon w hl0).mono fun e w' ⟨v, rows', h1, h2, h3, h4, h5⟩ => ?_
 have hvo : ∀ p ∈ views, p.2.own = false := fun p hp => by
  rcases hV.mem p hp with h1 | ⟨_, r, _, h3, _⟩
  · exact h1.2
  · exact h3
 obtain ⟨h6, h7⟩ := hH.back hw [] views (by simp) hvo (rows' := rows') (by simpa using h3) h4 (by simpa using h5) ks (hl v rows' h2) hk
 have hnil : ownB (views.map (·.2)) = [] := ownB_views fun r hr => by
  obtain ⟨p, hp, rfl⟩ := List.mem_map.1 hr
  exact hvo p hp
 rw [hnil] at h3
 exact ⟨v, _, h1, fun _ => h3.below, h7, h6, h v rows' h2⟩
variable {l : List Oper} {Q : Exit → Act → World → Prop} {n : Nat} {segs : List RG.Seg} {is : List Nat} {i : Nat}
/-- .. and whose answer leaves nothing in memory: a quiet one. -/
theorem At.wcV (d : Option Tmp) (views : List (Nat × Row)) {f : FuncId} {xs : List Operand} {tys : Array TypeId} {vs : List Value} (ho : (l.getD i default).op = .call ⟨.value (.func f), xs.toArray, tys⟩) (he : entersB P f = true) (ha : ArgsOk fr xs vs)
  (hV : ViewsOk H [] views) (hcon : Con P f vs (views.map (·.2)) fun u rows' => u = v ∧ rows' = [])
  (h' : At E (fr.put E.n d v) H (WX P l Q n (.q false is :: segs))) (hg : (l.getD i default).guard = none := by rfl) (hd : (l.getD i default).dst = d := by rfl) : At E fr H (WX P l Q n (.q false (i :: is) :: segs)) := by
 refine At.wc d ho he ha (fun w hw hH => ?_) h' hg hd
 have hl0 := hH.lift hw [] views (by simp) (by simp) hV.mem
 simp only [List.map_nil, List.nil_append] at hl0
 refine (hcon w hl0).mono fun e w' ⟨u, rows', h1, ⟨hu, _⟩, h3, h4, h5⟩ => ?_
 have hvo : ∀ p ∈ views, p.2.own = false := fun p hp => by
  rcases hV.mem p hp with h1 | ⟨_, r, _, h3, _⟩
  · exact h1.2
  · exact h3
 have hnil : ownB (views.map (·.2)) = [] := ownB_views fun r hr => by
  obtain ⟨p, hp, rfl⟩ := List.mem_map.1 hr
  exact hvo p hp
 rw [hnil] at h3
 exact ⟨hu ▸ h1, h3.below⟩
/-- A contract, from a walk. -/
theorem Con.enter {f : FuncId} {fn : Func} {c : Code} {args : List Value} {rows : List Row} {post : Value → List Row → Prop} {n : Nat} (hf : P.funcs[f]? = some fn) (hn : fn.ntmps = n) (hle : args.length ≤ n) (hb : fn.body = some c)
  (h : ∀ w, At ⟨w, ownB rows, n, []⟩ (frA args) (hL rows)
   (c.wp P (bodyPost P fn fun e w' => ∃ v rows', e = .returned v ∧ post v rows' ∧ Chg (ownB rows) w w' ∧ (∀ r ∈ rows', r.own = true) ∧ HR ⟨w, ownB rows, 0, []⟩ (hL rows') w'))) : Con P f args rows post :=
 fun w hw => _root_.Go.SE.enter (ownB rows) (hL rows) hf hb hn hle ⟨hw.row, hw.apart⟩ (h w)
/-- The end of such a walk: the labels of the rows that are handed back. -/
theorem At.give {fn : Func} {rs : List ResultVar} {vs : List Value} {rows : List Row} {post : Value → List Row → Prop} {w0 : World} {m : Nat} {T : Exit} (hT : T = .ret ∨ T = .normal) (ks : List Nat) {rows' : List Row} (hr : fn.results = rs.toArray) (hv : ResOk fr rs vs)
  (hk : ks.map H = rows'.map some) (hd : ks.Nodup) (ho : ∀ r ∈ rows', r.own = true) (hp : post (retV vs) rows') (hl : rs.length ≤ 4 := by decide) :
  At ⟨w0, ownB rows, m, []⟩ fr H (bodyPost P fn (fun e w' => ∃ v rows', e = .returned v ∧ post v rows' ∧ Chg (ownB rows) w0 w' ∧ (∀ r ∈ rows', r.own = true) ∧ HR ⟨w0, ownB rows, 0, []⟩ (hL rows') w') T) := by
 have key : At ⟨w0, ownB rows, m, []⟩ fr H (bodyPost P fn (fun e w' => ∃ v rows', e = .returned v ∧ post v rows' ∧ Chg (ownB rows) w0 w' ∧ (∀ r ∈ rows', r.own = true) ∧ HR ⟨w0, ownB rows, 0, []⟩ (hL rows') w') .ret) := by
  refine At.done rfl hr hv (fun w hw hH => ⟨_, rows', rfl, hp, hw, ho, ?_⟩) hl
  have hat : ∀ i r, hL rows' i = some r → ∃ k, ks[i]? = some k ∧ H k = some r := fun i r hi => by
   have h1 : (rows'.map some)[i]? = some (some r) := by
    rw [List.getElem?_map]
    unfold hL at hi
    rw [hi]
    rfl
   rw [← hk, List.getElem?_map, Option.map_eq_some_iff] at h1
   exact h1
  refine ⟨fun i r hi => ?_, fun i j r r' hi hj h1 h2 hne hz hz' => ?_⟩
  ·
   obtain ⟨k, _, hk2⟩ := hat i r hi
   exact hH.row k r hk2
  ·
   obtain ⟨k, hk1, hk2⟩ := hat i r hi
   obtain ⟨k', hk1', hk2'⟩ := hat j r' hj
   refine hH.apart k k' r r' hk2 hk2' h1 h2 (fun he => hne ?_) hz hz'
   subst he
   exact nodup_inj hd hk1 hk1'
 rcases hT with rfl | rfl
 · exact key
 · exact key
end
end SE
end Go


/- Copies, strings, slices held against nil. -/
namespace Go
namespace SE
open Go.RowKit
set_option linter.unusedVariables false
set_option linter.unusedSimpArgs false

/-- Bytes as a string. -/
def strB (l : List (BitVec 8)) : ByteArray := ⟨(l.map UInt8.ofBitVec).toArray⟩
abbrev strV (l : List (BitVec 8)) : Value := .string (strB l)
def ofStr (s : ByteArray) : List (BitVec 8) := s.data.toList.map UInt8.toBitVec
theorem ofStr_strB (l : List (BitVec 8)) : ofStr (strB l) = l := by
 unfold strB ofStr
 simp only [List.map_map]
 rw [show (UInt8.toBitVec ∘ UInt8.ofBitVec) = id from rfl, List.map_id]
theorem strB_size (l : List (BitVec 8)) : (strB l).size = l.length := by simp [strB, ByteArray.size]
theorem strB_inj {a b : List (BitVec 8)} (h : strB a = strB b) : a = b := by rw [← ofStr_strB a, h, ofStr_strB]
theorem toList_eq (s : ByteArray) : s.toList = s.data.toList := ByteArray.toList_eq s
theorem strB_beq (a b : List (BitVec 8)) : ((strB a).toList == (strB b).toList) = decide (a = b) := by
 rw [toList_eq, toList_eq, Bool.eq_iff_iff]
 simp only [beq_iff_eq, decide_eq_true_eq]
 constructor
 ·
  intro h
  apply strB_inj
  apply ByteArray.ext
  exact Array.ext' h
 · intro h; rw [h]
section
variable {P : Program} {E : Env} {fr : Fr} {H : Hp} {o : Oper} {t ty : TypeId} {x y : Operand} {v : Value}

theorem run_eql_strs (op : BinOp) (a b : List (BitVec 8)) (t : TypeId) (w : World) (h : op = .eql ∨ op = .neq) : (binOp op t (strV a) (strV b)).run P w = .ok (.bool (match op with | .eql => decide (a = b) | _ => !decide (a = b))) w := by
 have h1 := strB_beq a b
 rcases h with rfl | rfl
 · simp only [binOp, Op.stringOp, h1, Sem.run_pure]
 · simp only [binOp, Op.stringOp, h1, Sem.run_pure]
theorem P_eql_str {a b : List (BitVec 8)} (ho : o.op = .binOp .eql t x y ty) (hx : fr.ev x = some (strV a)) (hy : fr.ev y = some (strV b)) : PStep P fr o (.bool (decide (a = b))) := by
 intro A hA w
 have := run_eql_strs (P := P) .eql a b t w (Or.inl rfl)
 unfold execOp
 simp [ho, hA.ev hx, hA.ev hy, eqGuard, this]
theorem P_neq_str {a b : List (BitVec 8)} (ho : o.op = .binOp .neq t x y ty) (hx : fr.ev x = some (strV a)) (hy : fr.ev y = some (strV b)) : PStep P fr o (.bool (!decide (a = b))) := by
 intro A hA w
 have := run_eql_strs (P := P) .neq a b t w (Or.inr rfl)
 unfold execOp
 simp [ho, hA.ev hx, hA.ev hy, eqGuard, this]
theorem foldl_push : ∀ (l : List (BitVec 8)) (s : ByteArray), (l.map fun b : BitVec 8 => (b.toNat : Int)).foldl (fun r n => r.push (UInt8.ofNat n.toNat)) s = ⟨s.data ++ (l.map UInt8.ofBitVec).toArray⟩
 | [], s => by simp
 | b :: l, s => by
  rw [List.map_cons, List.foldl_cons, foldl_push l]
  apply ByteArray.ext
  simp [ByteArray.push]
theorem run_b2s_arr {P : Program} {w : World} {A : Addr} {l : List (BitVec 8)} {c : Nat} (h : (loadCells A l.length).run P w = .ok (l.map u8V).toArray w) : (Conv.bytesToString (.slice (some A) l.length c)).run P w = .ok (strV l) w := by
 have h1 := run_bytesToString (P := P) w A l.length c (l.map fun b : BitVec 8 => (b.toNat : Int)) (by rw [List.map_map]; exact h)
 rw [h1, foldl_push]
 congr 2
 apply ByteArray.ext
 simp [strB]
theorem Q_str {s d e : TypeId} {A : Option Addr} {l : List (BitVec 8)} {c b q k j : Nat} {r : Row} (ho : o.op = .convert s d x) (hs : P.underlying s = some (.slice e)) (he : P.underlying e = some (.int .u8)) (hd : P.underlying d = some .string)
  (hx : fr.ev x = some (.slice A l.length c)) (hA : 0 < l.length → A = some ⟨b, q, none⟩) (hk : 0 < l.length → H k = some r ∧ r.b = b ∧ r.s + j = q) (hn : (r.cells.drop j).take l.length = l.map u8V) : QStep P E fr H o (strV l) := by
 intro a w R
 have hrun : (Conv.bytesToString (.slice A l.length c)).run P w = .ok (strV l) w := by
  cases A with
  | none =>
   have : l = [] := by
    cases l with
    | nil => rfl
    | cons b l => have := hA (by simp); cases this
   subst this
   rfl
  | some p =>
   refine run_b2s_arr ?_
   by_cases h0 : 0 < l.length
   ·
    obtain ⟨h1, h2, h3⟩ := hk h0
    have hp := Option.some.inj (hA h0)
    subst hp h2 h3
    have := run_loadCells_list (P := P) (w := w) ⟨r.b, r.s + j, none⟩ (l.map u8V) (fun i v hi => by
     rw [add_addr, Nat.add_assoc]
     refine R.heap.cell R.chg h1 ?_
     rw [← hn, List.getElem?_take] at hi
     rw [← List.getElem?_drop]
     split at hi
     · exact hi
     · cases hi)
    rwa [List.length_map] at this
   ·
    have : l = [] := List.eq_nil_of_length_eq_zero (by omega)
    subst this
    simp [loadCells, loadCellsFrom]
 unfold execOp
 simp [ho, R.ev hx, convert, run_underlying hs, run_underlying hd, run_underlying he, hrun]

theorem Q_strN {s d e : TypeId} {A : Option Addr} {l : List (BitVec 8)} {n c b q k j : Nat} {r : Row} (hl : l.length = n) (ho : o.op = .convert s d x) (hs : P.underlying s = some (.slice e)) (he : P.underlying e = some (.int .u8)) (hd : P.underlying d = some .string)
  (hx : fr.ev x = some (.slice A n c)) (hA : 0 < n → A = some ⟨b, q, none⟩) (hk : 0 < n → H k = some r ∧ r.b = b ∧ r.s + j = q) (hn : (r.cells.drop j).take n = l.map u8V) : QStep P E fr H o (strV l) := by
 subst hl
 exact Q_str ho hs he hd hx hA hk hn
theorem P_eql_slnil {t e : TypeId} {A : Option Addr} {n c n' c' : Nat} (ho : o.op = .binOp .eql t x y ty) (ht : P.underlying t = some (.slice e)) (hx : fr.ev x = some (.slice A n c)) (hy : fr.ev y = some (.slice none n' c')) : PStep P fr o (.bool A.isNone) := by
 intro a ha w
 have h : (Op.equal t (.slice A n c) (.slice none n' c')).run P w = .ok A.isNone w := by
  have h : ∀ d, (Op.equalIn (d + 1) t (.slice A n c) (.slice none n' c')).run P w = .ok A.isNone w := fun d => by cases A <;> simp [Op.equalIn, run_underlying ht]
  exact h 9999
 unfold execOp
 cases A <;> simp at h <;> simp [ho, ha.ev hx, ha.ev hy, eqGuard, binOp, h]
/-- A label more, of no cells. -/
theorem At.empty {T : Act → World → Prop} (k b : Nat) (e : TypeId) (h : At E fr (H.set k ⟨true, b, 0, e, [], 0⟩) T) : At E fr H T :=
 fun a w R => h a w ⟨R.df, R.size, R.fr, R.chg, R.heap.empty k b e⟩

theorem View.sub {α : Type} {f : α → Value} {S L : List α} {b s s' j m t rest : Nat} {ow : Bool} {ty ty' : TypeId} (hq : s' = s + j) (hL : L = (S.drop j).take m) : View ⟨ow, b, s, ty, S.map f, rest⟩ ⟨false, b, s', ty', L.map f, t⟩ := by
 subst hq hL
 refine ⟨rfl, rfl, j, rfl, fun i v h => ?_⟩
 dsimp only at h ⊢
 rw [List.map_take, List.map_drop, List.getElem?_take] at h
 split at h
 · rwa [List.getElem?_drop] at h
 · cases h
theorem fill_set {α : Type} (f : Nat → α) (z : α) {k n : Nat} (h : k < n) : ((List.range k).map f ++ List.replicate (n - k) z).set k (f k) = (List.range (k + 1)).map f ++ List.replicate (n - (k + 1)) z := by
 rw [List.set_append_right _ _ (by simp)]
 simp only [List.length_map, List.length_range, Nat.sub_self]
 rw [show n - k = (n - (k + 1)) + 1 by omega, List.replicate_succ, List.set_cons_zero, List.range_succ]
 simp
theorem P_indexAddr_slz {t e : TypeId} {b len cap j : Nat} {A : Option Addr} {k : IntKind} {i : Int} {ix : Operand} (ho : o.op = .indexAddr t x ix) (ht : P.underlying t = some (.slice e)) (hz : tsz P e = some 1)
  (hx : fr.ev x = some (.slice A len cap)) (hA : A = some ⟨b, 0, none⟩) (hi : fr.ev ix = some (.int k i)) (hj : i = (j : Int)) (hlt : j < len) : PStep P fr o (.pointer (some ⟨b, j, none⟩)) := by
 have h := P_indexAddr_sl1 (P := P) ho ht hz hx hA hi hj hlt
 rwa [Nat.zero_add] at h
/-! ### copy -/
def Src2 (P : Program) (E : Env) (fr : Fr) (H : Hp) (y : Operand) (m n : Nat) (news : List Value) : Prop :=
 ∀ a w, Rep E fr H a w → (Builtin.lenOf (a.eval y)).run P w = .ok m w ∧ (Builtin.firstCells 1 n (a.eval y)).run P w = .ok news.toArray w
theorem Src2.row {m n c b q k j : Nat} {A : Option Addr} {r : Row} {news : List Value} (hy : fr.ev y = some (.slice A m c)) (hA : 0 < n → A = some ⟨b, q, none⟩) (hk : 0 < n → H k = some r ∧ r.b = b ∧ r.s + j = q) (hn : (r.cells.drop j).take n = news) (hl : news.length = n) : Src2 P E fr H y m n news := by
 intro a w R
 rw [R.ev hy]
 refine ⟨by simp [Builtin.lenOf], ?_⟩
 by_cases h0 : n = 0
 ·
  subst h0
  have : news = [] := List.eq_nil_of_length_eq_zero (by simpa using hl)
  subst this
  cases A <;> simp [Builtin.firstCells, loadCells, loadCellsFrom]
 ·
  obtain ⟨h1, h2, h3⟩ := hk (by omega)
  rw [hA (by omega)]
  subst h2 h3
  have := run_loadCells_list (P := P) (w := w) ⟨r.b, r.s + j, none⟩ news (fun i v hi => by
   rw [add_addr, Nat.add_assoc]
   refine R.heap.cell R.chg h1 ?_
   rw [← hn, List.getElem?_take] at hi
   rw [← List.getElem?_drop]
   split at hi
   · exact hi
   · cases hi)
  rw [hl] at this
  simp [Builtin.firstCells, this]
theorem S_copy (d : Option Tmp) (k : Nat) {t tx e : TypeId} {b p dl dc m n rest : Nat} {A : Option Addr} {ty : TypeId} {cells news : List Value} {K : Fr → Hp → Prop}
  (ho : o.op = .call ⟨.builtin .copy, #[x, y], #[t, tx]⟩) (ht : P.underlying t = some (.slice e)) (hz : tsz P e = some 1) (hx : fr.ev x = some (.slice A dl dc)) (hA : 0 < n → A = some ⟨b, p, none⟩)
  (hk : H k = some ⟨true, b, 0, ty, cells, rest⟩) (hs : Src2 P E fr H y m n news) (hn : n = min m dl) (hl : news.length = n) (h1 : ∀ u ∈ news, u.oneCell' = true) (hp : p + n ≤ cells.length)
  (h : K (fr.put E.n d (.int .i64 (n : Int))) (H.set k ⟨true, b, 0, ty, splice cells p news, rest⟩)) (hd : o.dst = d := by rfl) : SStep P E true fr H o K := by
 subst hd
 intro a w R
 obtain ⟨s1, s2⟩ := hs a w R
 have hm : Nat.min m dl = n := hn.symm
 have R' := R.put o.dst (.int .i64 (n : Int))
 by_cases hpos : 0 < n
 ·
  have hz0 : cells.length + rest ≠ 0 := by omega
  obtain ⟨_, e2, e3, tl, fz, e4, e5, e6⟩ := R.heap.own_ hk rfl hz0
  dsimp only at e2 e3 e4 e5 e6
  obtain ⟨w', r1, r2, r3⟩ := run_stores (P := P) b p ty fz news 0 (cells ++ tl) w e6 (by simp; omega) (by rcases e5 with e5 | e5; exact Or.inl e5; right; simp; omega) h1
  have hA' := hA hpos
  subst hA'
  have hrun : (execOp a.eval o).run P w = .ok (.value (.int .i64 (n : Int))) w' := by
   unfold execOp
   simp [ho, R.ev hx, resolve, invoke, builtin, Builtin.copy_, run_underlying ht, s1, run_tsz hz, hm, s2, r1, goInt]
  unfold Oper.wp
  rw [hrun]
  refine ⟨fun hh => (by cases hh), _, _, h, ?_⟩
  refine ⟨R'.df, R'.size, R'.fr, R.chg.trans_new r2 ?_, ?_⟩
  ·
   intro q hq
   obtain rfl : q = b := by simpa using hq
   exact e3
  ·
   refine R.heap.write (r := ⟨true, b, 0, ty, cells, rest⟩) hk rfl hz0 (by dsimp only; rw [splice_length _ _ _ (by omega)]) r2 fun tl' fz' ht' hh' => ?_
   dsimp only at hh' ht' ⊢
   rw [e6] at hh'
   simp only [Option.some.injEq, Obj.cells.injEq] at hh'
   obtain ⟨g1, _, g3⟩ := hh'
   have g1 : cells ++ tl = cells ++ tl' := by simpa using g1
   have g1 := List.append_cancel_left g1
   subst g1 g3
   exact ⟨tl, e4, by rw [r3, Nat.add_zero, splice_append _ _ _ _ (by omega)]⟩
 ·
  have hn0 : n = 0 := by omega
  subst hn0
  have hnews : news = [] := List.eq_nil_of_length_eq_zero hl
  subst hnews
  have hrun : (execOp a.eval o).run P w = .ok (.value (.int .i64 ((0 : Nat) : Int))) w := by
   unfold execOp
   cases A <;> simp [ho, R.ev hx, resolve, invoke, builtin, Builtin.copy_, run_underlying ht, s1, run_tsz hz, hm, s2, goInt, storeCells]
  unfold Oper.wp
  rw [hrun]
  refine ⟨fun hh => (by cases hh), _, _, h, ?_⟩
  refine ⟨R'.df, R'.size, R'.fr, R.chg, ?_⟩
  rw [splice_nil]
  refine ⟨fun i r hr => ?_, fun i j r r' hr hr' => ?_⟩
  ·
   rcases Hp.set_some hr with ⟨rfl, rfl⟩ | ⟨_, hr⟩
   · exact R.heap.row _ _ hk
   · exact R.heap.row i r hr
  ·
   rcases Hp.set_some hr with ⟨e1, e2⟩ | ⟨_, hq⟩ <;> rcases Hp.set_some hr' with ⟨e3, e4⟩ | ⟨_, hq'⟩
   · subst e1 e2 e3 e4; exact R.heap.apart _ _ _ _ hk hk
   · subst e1 e2; exact R.heap.apart _ _ _ _ hk hq'
   · subst e3 e4; exact R.heap.apart _ _ _ _ hq hk
   · exact R.heap.apart i j r r' hq hq'
theorem splice_map {α β : Type} (f : α → β) (cs vs : List α) (p : Nat) : splice (cs.map f) p (vs.map f) = (splice cs p vs).map f := by
 simp [splice, List.map_take, List.map_drop]
theorem S_copyM {α : Type} {f : α → Value} {S L : List α} (d : Option Tmp) (k ks : Nat) {t tx e : TypeId} {b bq p q dl dc m n j rest cy : Nat} {A Ay : Option Addr} {ty : TypeId} {r : Row} {K : Fr → Hp → Prop}
  (ho : o.op = .call ⟨.builtin .copy, #[x, y], #[t, tx]⟩) (ht : P.underlying t = some (.slice e)) (hz : tsz P e = some 1) (hx : fr.ev x = some (.slice A dl dc)) (hA : 0 < n → A = some ⟨b, p, none⟩)
  (hk : H k = some ⟨true, b, 0, ty, S.map f, rest⟩) (hy : fr.ev y = some (.slice Ay m cy)) (hAy : 0 < n → Ay = some ⟨bq, q, none⟩) (hks : 0 < n → H ks = some r ∧ r.b = bq ∧ r.s + j = q) (hL : (r.cells.drop j).take n = L.map f)
  (hn : n = min m dl) (hl : L.length = n) (h1 : ∀ u : α, (f u).oneCell' = true) (hp : p + n ≤ S.length)
  (h : K (fr.put E.n d (.int .i64 (n : Int))) (H.set k ⟨true, b, 0, ty, (splice S p L).map f, rest⟩)) (hd : o.dst = d := by rfl) : SStep P E true fr H o K :=
 S_copy d k ho ht hz hx hA hk (Src2.row hy hAy hks hL (by simpa using hl)) hn (by simpa using hl) (by intro u hu; obtain ⟨z, _, rfl⟩ := List.mem_map.1 hu; exact h1 z) (by simpa using hp) (by rw [splice_map]; exact h) hd
/-- .. of cells of one kind, one cell each: bytes, words. -/
theorem S_appendM {α : Type} {f : α → Value} {l L : List α} (d : Option Tmp) (k : Nat) (M : List α) {t tx e : TypeId} {D : TypeDesc} {by_ b n c m rest : Nat} {A : Option Addr} {z : Value} {K : Fr → Hp → Prop}
  (ho : o.op = .call ⟨.builtin .append, #[x, y], #[t, tx]⟩) (ht : P.underlying t = some (.slice e)) (htx : P.underlying tx = some D) (hD : D = .string ∨ ∃ e', D = .slice e') (hz : tsz P e = some 1) (hby : tby P e = some by_) (hzz : tze P e = some z) (hzc : z.cells.size = 1)
  (hx : fr.ev x = some (.slice A n c)) (hk : 0 < c → A = some ⟨b, 0, none⟩ ∧ H k = some ⟨true, b, 0, e, l.map f, rest⟩) (hlen : l.length = n) (hcap : n + rest = c)
  (hs : Src P E fr H 1 y m (L.map f)) (h1 : ∀ u, (f u).oneCell' = true) (hmax : n + m ≤ 140737488355328) (hbytes : (n + m) * by_ ≤ 140737488355328) (hM : l ++ L = M) (hm : L.length = m)
  (h : ∀ (A' : Option Addr) (b' c' : Nat), (0 < c' → A' = some ⟨b', 0, none⟩) → M.length ≤ c' → K (fr.put E.n d (.slice A' M.length c')) (H.set k ⟨true, b', 0, e, M.map f, c' - M.length⟩)) (hd : o.dst = d := by rfl) : SStep P E true fr H o K := by
 subst hM hlen hm
 refine S_append d k ho ht htx hD hz hby hzz hzc hx hk (by simp) (by omega) (by omega) hs (by intro u hu; obtain ⟨z, _, rfl⟩ := List.mem_map.1 hu; exact h1 z) (by decide) hmax hbytes (fun A' b' c' g1 g2 => ?_) hd
 have := h A' b' c' g1 (by simpa using g2)
 rw [List.length_append, List.map_append] at this
 rw [Nat.mul_one]
 exact this
end
end SE
end Go


/-
 Generic (no program): a law that returns true, writes nothing that was there before, and reads its arguments: its row, from a walk 'Calls .. true .. Below'.
-/
namespace Go
namespace ROW
open Go.ChangeShapes Go.WideShapes Go.ChangeAt Go.RowKit
set_option linter.unusedVariables false

theorem stays {H : Type} {enc : TypeId × Value → H} {P : Program} {W W' : World} (hl : laidOutB P = true) (hb : Below W.heap.size W W') : ∀ {ts : List TypeId} {vs : List Value} {ds : List (DataW H)} {ps : List MemPlace},
  ts.all (fun t => P.readableRec t && decide (t < P.types.size)) = true → DataW.TrodAll enc P W 0 (fun _ => true) true ts vs ds ps → (∀ x ∈ ps, x.block < W.heap.size) →
  DataW.TrodAll enc P W' 0 (fun b => decide (b < W.heap.size)) true ts vs ds ps
 | [], vs, ds, ps, _, h, _ => by
  obtain ⟨rfl, rfl, rfl⟩ := trodAll_nil h
  exact trodAll_mk0
 | t :: ts, vs, ds, ps, hr, h, hp => by
  obtain ⟨v, vs', d, ds', p, q, rfl, rfl, rfl, h0, h1⟩ := trodAll_cons h
  rw [List.all_cons, Bool.and_eq_true, Bool.and_eq_true] at hr
  obtain ⟨⟨r1, r2⟩, r3⟩ := hr
  exact trodAll_cons_mk (Below.trod hl r1 (of_decide_eq_true r2) h0 hb (fun x hx => hp x (by simp [hx]))) (stays hl hb r3 h1 (fun x hx => hp x (by simp [hx])))

theorem lens {H : Type} {enc : TypeId × Value → H} {P : Program} {w : World} {b : Nat} {sp : Nat → Bool} {hd : Bool} : ∀ {ts : List TypeId} {vs : List Value} {ds : List (DataW H)} {ps : List MemPlace},
  DataW.TrodAll enc P w b sp hd ts vs ds ps → ds.length = ts.length
 | [], vs, ds, ps, h => by
  obtain ⟨rfl, rfl, rfl⟩ := trodAll_nil h
  rfl
 | t :: ts, vs, ds, ps, h => by
  obtain ⟨v, vs', d, ds', p, q, rfl, rfl, rfl, h0, h1⟩ := trodAll_cons h
  simp [lens h1]

theorem lifted {C : Checked} {f : FuncId} {fn : Func} {s : ChangeSpec} {tb : TypeId} (os : Os) (started : os.Started) (H : Type) (enc : TypeId × Value → H)
  (own : ownKnob C.prog.godebug = none) (noInit : C.prog.inits.idxOf? f = none) (hfn : C.prog.funcs[f]? = some fn)
  (laid : laidOutB C.prog = true) (hread : fn.params.toList.all (fun t => C.prog.readableRec t && decide (t < C.prog.types.size)) = true)
  (hvars : s.vars = []) (hres : fn.resultTypes = #[tb]) (htb : C.prog.underlying tb = some .bool)
  (hspec : ∀ ds : List (DataW H), ds.length = fn.params.toList.length → s.fn H ds = { results := [.lit (.bool true)], args := ds })
  (witness : ∃ (w : World) (tape : Tape) (i : Input), w.os = os ∧ (w.forCall tape i).Shaped C.prog ∧ i.vars = [] ∧ Input.okWide C.prog (w.forCall tape i) .any w.heap.size f i ∧
   s.pre6 enc C.prog fn [] false (w.forCall tape i).memory i.args ∧ Assume.holds {} C.prog (lone (Frame.enter C.prog f i.args .normal) [] (w.forCall tape i)))
  (walk : ∀ (W : World) (base : Nat) (args : Array Value) (ds : List (DataW H)) (p : List MemPlace),
   (∀ (j : Nat) t v, fn.params[j]? = some t → args[j]? = some v → Value.okWide C.prog W .any base t v) →
   DataW.TrodAll enc C.prog W 0 (fun _ => true) true fn.params.toList args.toList ds p → (∀ x ∈ p, x.block < W.heap.size) →
   Calls C.prog f args W fun e W' => e = .returned (.bool true) ∧ Below W.heap.size W W') :
  ReturnsInHanded {} C os f .any (s.pre6 enc C.prog fn [] false) (s.post enc C.prog fn false true false false) := by
 refine returnsInHanded_of_change (C := C) own started noInit hfn witness ?_
 intro W base args ds gs before hval hW hcnd _
 have hW' := hW
 obtain ⟨p, q, hA, hV, hpq, hfz, hnd⟩ := hW
 rw [hvars] at hV
 obtain ⟨rfl, rfl⟩ := trodVars_none hV
 subst hpq
 have hlt : ∀ x ∈ p, x.block < W.heap.size := fun x hx => by simpa using hW'.lt x (by simp [hx])
 have hlen : ds.length = fn.params.toList.length := lens hA
 refine (walk W base args ds p hval hA hlt).mono fun e W' ⟨he, hb⟩ => ?_
 subst he
 have e0 : s.fn H (ds ++ []) = { results := [.lit (.bool true)], args := ds } := by rw [List.append_nil]; exact hspec ds hlen
 have hb' := stays laid hb hread hA hlt
 refine ⟨_, rfl, ?_⟩
 refine ⟨ds, [], p ++ [], [], p, [], hW', ?_, ?_, ?_, hb.frame _, fun h => by cases h⟩
 · rw [e0, hres]; exact trodAll_mk1 (shut_bool htb _)
 · rw [e0]; exact hb'
 · rw [e0, hvars]; rfl

/-- A parameter that is a slice of integers: the elements, in order. -/
def Ints (W : World) (k : IntKind) (a : Option Addr) (cap : Nat) (zs : List Int) : Prop :=
 zs.length ≤ cap ∧ cap ≤ maxLen ∧ (∀ n ∈ zs, (Lit.int k n).wf = true) ∧
  (0 < zs.length → ∃ b off, a = some ⟨b, off, none⟩ ∧ b < W.heap.size ∧ ∀ i, i < zs.length → W.cell? ⟨b, off + i, none⟩ = some (.int k (zs.getD i 0)))

theorem open_sl {H : Type} {enc : TypeId × Value → H} {P : Program} {W : World} {r : Reach} {b0 : Nat} {t e : TypeId} {k : IntKind} {v : Value} {d : DataW H} {p : List MemPlace}
  (ht : P.underlying t = some (.slice e)) (he : P.underlying e = some (.int k)) (hc : P.cellsOf e = 1) (hval : Value.okWide P W r b0 t v)
  (hj : DataW.Trod enc P W 0 (fun _ => true) true t v d p) (hlt : ∀ x ∈ p, x.block < W.heap.size) : ∃ a cap zs, v = .slice a zs.length cap ∧ Ints W k a cap zs := by
 obtain ⟨a0, len, cap, rfl⟩ := okWide_slice ht hval
 obtain ⟨fuel, hf⟩ := hj
 rcases open_ints ht he hc hf with ⟨hcs, hx⟩ | ⟨a, len', cap', zs, hcs, _, hl, hm, hz, hx, hcell, hwz⟩
 ·
  simp [Value.cells] at hcs
  obtain ⟨rfl, rfl, rfl⟩ := hcs
  exact ⟨none, 0, [], rfl, by simp, by decide, by simp, by simp⟩
 ·
  simp [Value.cells] at hcs
  obtain ⟨rfl, rfl, rfl⟩ := hcs
  simp at hz
  have hlen : (zs.take len).length = len := by simp; omega
  refine ⟨some a, cap, zs.take len, by rw [hlen], by omega, hm, fun n hn => hwz n (List.mem_of_mem_take hn), fun hp => ?_⟩
  rw [hlen] at hp
  obtain ⟨b, off, rfl, hcc⟩ := ints_at hcell (by omega)
  refine ⟨b, off, rfl, ?_, fun i hi => ?_⟩
  ·
   have h1 : p = MemPlace.row ⟨b, off, none⟩ zs.length := (Prod.mk.inj hx).2
   have h2 : MemPlace.cell b (off + 0) ∈ p := by
    rw [h1]
    unfold MemPlace.row
    exact List.mem_map.2 ⟨0, by simp; omega, rfl⟩
   exact hlt _ h2
  ·
   rw [hlen] at hi
   rw [hcc i (by omega)]
   simp [List.getD, hi]
open Go.SE
/-- A contract of a law that answers true, its rows there: what 'lifted' asks. -/
theorem of_con {P : Program} {f : FuncId} {args : List Value} {rows : List Row} (h : Con P f args rows fun v rs => v = .bool true ∧ rs = []) {W : World}
  (hr : ∀ r ∈ rows, r.own = false ∧ (r.cells ≠ [] → r.b < W.heap.size ∧ ∀ (j : Nat) v, r.cells[j]? = some v → W.cell? ⟨r.b, r.s + j, none⟩ = some v)) :
  Calls P f args.toArray W fun e W' => e = .returned (.bool true) ∧ Below W.heap.size W W' := by
 have hnil : ownB rows = [] := ownB_views fun r hm => (hr r hm).1
 have hH : HR ⟨W, ownB rows, 0, []⟩ (hL rows) W := by
  refine ⟨fun k r hk => ?_, fun k k' r r' hk hk' ho => ?_⟩
  ·
   obtain ⟨h1, h2⟩ := hr r (List.mem_of_getElem? hk)
   unfold RowR
   rw [h1]
   intro hne
   obtain ⟨h3, h4⟩ := h2 hne
   exact ⟨h3, by rw [hnil]; simp, h4⟩
  · rw [(hr r (List.mem_of_getElem? hk)).1] at ho; cases ho
 refine (h W hH).mono fun e w' ⟨v, rs, h1, ⟨h2, _⟩, h3, _⟩ => ?_
 rw [hnil] at h3
 subst h2
 exact ⟨h1, h3.below⟩
end ROW
end Go


/- A range over a function: walks within a round; the rule of the statement; how the function ends. -/
namespace Go
namespace SE
open Go.RowKit
set_option linter.unusedVariables false
set_option linter.unusedSimpArgs false

abbrev FQ (ρ : Option Nat) : Fence := { Fence.wide with round := ρ }
abbrev FR (l : Nat) : Fence := FQ (some l)

section
variable {P : Program} {l0 : Option Nat} {n0 : Nat}
end

section
variable {P : Program} {E : Env} {fr : Fr} {H : Hp} {Q : Exit → Act → World → Prop} {F : Fence} {n l0 : Nat}
end

/-! ### A walk that begins anew at a world, some blocks of which nobody may touch -/
def newB (E : Env) (w : World) (X : List Nat) : List Nat := E.S ++ (List.range w.heap.size).filter fun k => decide (E.W0.heap.size ≤ k) && !X.contains k
def Env.re (E : Env) (w : World) (X : List Nat) (df : List Deferred) : Env := ⟨w, newB E w X, E.n, df⟩
theorem mem_newB {E : Env} {w : World} {X : List Nat} {k : Nat} : k ∈ newB E w X ↔ k ∈ E.S ∨ (k < w.heap.size ∧ E.W0.heap.size ≤ k ∧ k ∉ X) := by
 unfold newB
 simp [List.mem_append, List.mem_filter]
theorem cells_of_cell' {W : World} {a : Addr} {v : Value} (h : W.cell? a = some v) : ∃ o : Obj, W.heap[a.block]? = some o ∧ o.isCells = true := by
 unfold World.cell? at h
 cases ho : W.heap[a.block]? with
 | none => simp [ho] at h
 | some o => exact ⟨o, rfl, by cases o <;> simp_all [Obj.isCells]⟩
structure Re (E : Env) (w : World) (X : List Nat) : Prop where
 chg : Chg E.S E.W0 w
 new : ∀ k ∈ X, E.W0.heap.size ≤ k ∧ k ∉ E.S
 ob : ∀ k ∈ X, ∃ o : Obj, w.heap[k]? = some o ∧ isRow o = false
section
variable {E : Env} {fr : Fr} {H : Hp} {a : Act} {w w1 : World} {X : List Nat} {df : List Deferred}
theorem HR.re (h : HR E H w) (hX : Re E w X) : HR (E.re w X df) H w := by
 refine ⟨fun k r hk => ?_, h.apart⟩
 have h1 := h.row k r hk
 unfold RowR at h1 ⊢
 split at h1
 ·
  rename_i ho
  refine ⟨h1.1, fun hz => ?_⟩
  obtain ⟨g1, g2, g3⟩ := h1.2 hz
  refine ⟨g1, Or.inl (mem_newB.2 ?_), g3⟩
  rcases g2 with g2 | g2
  · exact Or.inl g2
  ·
   refine Or.inr ⟨g1, g2, fun hm => ?_⟩
   obtain ⟨o, ho1, ho2⟩ := hX.ob _ hm
   obtain ⟨x, hx1, hx2⟩ := g3.row
   rw [hx1] at ho1
   cases ho1
   rw [hx2] at ho2
   cases ho2
 ·
  intro hne
  obtain ⟨g1, g2, g3⟩ := h1 hne
  refine ⟨Nat.lt_of_lt_of_le g1 hX.chg.size, fun hm => ?_, fun j v hj => ?_⟩
  ·
   rcases mem_newB.1 hm with hm | ⟨_, hm, _⟩
   · exact g2 hm
   · omega
  ·
   show w.cell? ⟨r.b, r.s + j, none⟩ = some v
   rw [World.cell?_of_block (w := E.W0) (hX.chg.block r.b g1 g2)]
   exact g3 j v hj
theorem Rep.re (h : Rep E fr H a w) (hX : Re E w X) : Rep (E.re w X df) fr H { a with defers := df } w :=
 ⟨rfl, h.size, h.fr, Chg.refl _ _, h.heap.re hX⟩
theorem Re.chg_back (hX : Re E w1 X) (hc : Chg (newB E w1 X) w1 w) : Chg E.S E.W0 w :=
 hX.chg.trans_new hc fun k hk => by
  rcases mem_newB.1 hk with h | h
  · exact Or.inl h
  · exact Or.inr h.2.1
theorem Re.keep (hX : Re E w1 X) (hc : Chg (newB E w1 X) w1 w) {k : Nat} (hk : k ∈ X) : w.heap[k]? = w1.heap[k]? := by
 obtain ⟨o, ho, _⟩ := hX.ob k hk
 refine hc.block k (Array.getElem?_eq_some_iff.1 ho).1 fun hm => ?_
 rcases mem_newB.1 hm with h | h
 · exact (hX.new k hk).2 h
 · exact h.2.2 hk
theorem Re.hr_back (hX : Re E w1 X) (hc : Chg (newB E w1 X) w1 w) (h : HR (E.re w1 X df) H w) : HR E H w := by
 refine ⟨fun k r hk => ?_, h.apart⟩
 have h1 := h.row k r hk
 unfold RowR at h1 ⊢
 split at h1
 ·
  rename_i ho
  refine ⟨h1.1, fun hz => ?_⟩
  obtain ⟨g1, g2, g3⟩ := h1.2 hz
  refine ⟨g1, ?_, g3⟩
  rcases g2 with g2 | g2
  ·
   rcases mem_newB.1 g2 with g2 | g2
   · exact Or.inl g2
   · exact Or.inr g2.2.1
  · exact Or.inr (Nat.le_trans hX.chg.size g2)
 ·
  intro hne
  obtain ⟨g1, g2, g3⟩ := h1 hne
  have hS : r.b ∉ E.S := fun hm => g2 (mem_newB.2 (Or.inl hm))
  have hlt : r.b < E.W0.heap.size := by
   refine Classical.byContradiction fun hge => ?_
   have hge : E.W0.heap.size ≤ r.b := by omega
   refine g2 (mem_newB.2 (Or.inr ⟨g1, hge, fun hm => ?_⟩))
   obtain ⟨o, ho1, ho2⟩ := hX.ob _ hm
   obtain ⟨v, hv⟩ : ∃ v, r.cells[0]? = some v := by
    cases hcs : r.cells with
    | nil => exact absurd hcs hne
    | cons x l => exact ⟨x, by simp⟩
   obtain ⟨o', ho1', ho2'⟩ := cells_of_cell' (g3 0 v hv)
   have ho1' : w1.heap[r.b]? = some o' := ho1'
   rw [ho1'] at ho1
   obtain rfl := Option.some.inj ho1
   cases o' <;> simp_all [isRow, Obj.isCells]
  refine ⟨hlt, hS, fun j v hj => ?_⟩
  rw [← World.cell?_of_block (w := E.W0) (hX.chg.block _ hlt hS)]
  exact g3 j v hj
/-- What is no row's may turn. -/
theorem HR.putObj {b : Nat} {o o' : Obj} (h : HR E H w) (hc : Chg E.S E.W0 w) (hb : w.heap[b]? = some o) (ho : isRow o = false) : HR E H (w.putObj b o') := by
 refine ⟨fun k r hk => ?_, h.apart⟩
 have h1 := h.row k r hk
 unfold RowR at h1 ⊢
 split at h1
 ·
  refine ⟨h1.1, fun hz => ?_⟩
  obtain ⟨g1, g2, g3⟩ := h1.2 hz
  have hne : r.b ≠ b := fun he => by
   obtain ⟨x, hx1, hx2⟩ := g3.row
   rw [he, hb] at hx1
   cases hx1
   rw [ho] at hx2
   cases hx2
  exact ⟨by simpa using g1, g2, by rw [World.putObj_heap_other hne]; exact g3⟩
 · exact h1
theorem Chg.putObj {S : List Nat} {w0 : World} {b : Nat} {o : Obj} (h : Chg S w0 w) (hb : w0.heap.size ≤ b) : Chg S w0 (w.putObj b o) :=
 ⟨h.os, h.tape, h.output, by simpa using h.size, fun k hk hn => (World.putObj_heap_other (by omega)).trans (h.block k hk hn)⟩
end

/-! ### The statement -/
/-- What an iterator does: the values come one behind the other, whatever the rounds keep; C is what it reads. -/
def Iter (P : Program) (gf : FuncId) (lb : List Value) (xs : List Value) (C : World → Prop) : Prop :=
 ∀ (l : Nat) (J : Nat → World → Prop) (Jx : World → Prop) (W : World), (∀ i A B, J i A → Below A.heap.size A B → J i B) → (∀ A B, Jx A → Below A.heap.size A B → Jx B) → (∀ i A, J i A → C A) →
  (∀ i x A, J i A → xs[i]? = some x → YieldAt Fence.wide 0 P l #[x] A fun e B => (e = .returned (.bool true) ∧ J (i + 1) B) ∨ (e = .returned (.bool false) ∧ Jx B)) → J 0 W →
  Calls P gf (#[.func (.yield l) #[] #[]] ++ lb.toArray) W fun e B => (∃ v, e = .returned v) ∧ (J xs.length B ∨ Jx B)
section
variable {P : Program} {E : Env} {fr : Fr} {H : Hp} {Q : Exit → Act → World → Prop}
theorem At.range {g : Operand} {p : Tmp} {assign body : Code} {gf : FuncId} {lb xs : List Value} (C : World → Prop) (hIt : Iter P gf lb xs C) (Inv : Nat → Hp → Prop) (Rx : Hp → Prop) (fra : Value → Fr)
  (hg : fr.ev g = some (.func (.func gf) #[] lb.toArray)) (he : entersB P gf = true) (hE : E.df = []) (hS : ∀ k ∈ E.S, k < E.W0.heap.size)
  (hC : ∀ i H' w, Inv i H' → Chg E.S E.W0 w → HR E H' w → C w) (h0 : Inv 0 H)
  (hassign : ∀ (l n : Nat) (wb : World) (X : List Nat) (x : Value) (H' : Hp) (K : Act → World → Prop), At (E.re wb X []) (fra x) H' K → At (E.re wb X []) (fr.put E.n (some p) x) H' (assign.wpIn (FR l) n P (Exit.then K fun _ _ _ => False)))
  (hbody : ∀ (l n : Nat) (wb : World) (X : List Nat) (i : Nat) (x : Value) (H' : Hp), xs[i]? = some x → Inv i H' → ∀ Q' : Exit → Act → World → Prop, (∀ fr' H'', Inv (i + 1) H'' → At (E.re wb X []) fr' H'' (Q' .normal)) → (∀ fr' H'', Rx H'' → At (E.re wb X []) fr' H'' (Q' .ret)) → (∀ a w, Q' .outgrown a w → False) →
   At (E.re wb X []) (fra x) H' (body.wpIn (FR l) n P Q'))
  (hend : ∀ (D : Nat) (w1 : World), Re E w1 [D] → w1.heap[D]? = some (.deferred (some [])) → ∀ H', Inv xs.length H' → At (E.re w1 [D] [{ target := .collected D, args := #[] }]) fr H' (Q .normal))
  (hret : ∀ (D : Nat) (w1 : World), Re E w1 [D] → w1.heap[D]? = some (.deferred (some [])) → ∀ H', Rx H' → At (E.re w1 [D] [{ target := .collected D, args := #[] }]) fr H' (Q .ret)) :
  At E fr H ((Code.rangeFunc g #[p] assign body).wp P Q) := by
 intro a w R
 refine (wpIn_wide (n := 1)).1 (wpIn_rangeFunc fun fn _ => ?_)
 have hdf : a.defers = [] := R.df.trans hE
 obtain ⟨rec, hrec⟩ : ∃ rec : LoopState → Option Code → Loop, rec = fun st pe => { state := st, pending := pe, fn, tmps := a.tmps, params := #[p], assign, body, defers := w.heap.size } := ⟨_, rfl⟩
 obtain ⟨W1, hW1⟩ : ∃ W1, (w.alloc (.deferred (some []))).alloc (.loop (rec .ready none)) = W1 := ⟨_, rfl⟩
 have hsz := R.chg.size
 have hL1 : W1.heap[w.heap.size + 1]? = some (.loop (rec .ready none)) := by
  rw [← hW1]; have := World.alloc_heap_new (w.alloc (.deferred (some []))) (.loop (rec .ready none)); rwa [World.size_alloc] at this
 have hK1 : W1.heap[w.heap.size]? = some (.deferred (some [])) := by
  rw [← hW1]; exact (Below.heap_alloc _ _ _ (by simp)).trans (World.alloc_heap_new w _)
 have hb1 : Below w.heap.size w W1 := by
  rw [← hW1]; exact ((Below.refl _ w).alloc (Nat.le_refl _) _).alloc (by simp) _
 have hnew : ∀ k ∈ [w.heap.size, w.heap.size + 1], E.W0.heap.size ≤ k := by
  intro k hk
  simp only [List.mem_cons, List.not_mem_nil, or_false] at hk
  omega
 have hnS : ∀ k ∈ [w.heap.size, w.heap.size + 1], k ∉ E.S := fun k hk hm => by
  have := hS k hm
  have := hnew k hk
  omega
 -- what is kept from round to round
 let J : Nat → World → Prop := fun i W => ∃ H', Inv i H' ∧ Chg E.S E.W0 W ∧ HR E H' W ∧ W.heap[w.heap.size + 1]? = some (.loop (rec .ready none)) ∧ W.heap[w.heap.size]? = some (.deferred (some []))
 let Jx : World → Prop := fun W => ∃ H', Rx H' ∧ Chg E.S E.W0 W ∧ HR E H' W ∧ W.heap[w.heap.size + 1]? = some (.loop (rec .done (some .ret))) ∧ W.heap[w.heap.size]? = some (.deferred (some []))
 have hxD : w.heap.size ∈ [w.heap.size, w.heap.size + 1] := by simp
 have hxL : w.heap.size + 1 ∈ [w.heap.size, w.heap.size + 1] := by simp
 have hre : ∀ {W : World} {st : LoopState} {pe : Option Code}, Chg E.S E.W0 W → W.heap[w.heap.size + 1]? = some (.loop (rec st pe)) → W.heap[w.heap.size]? = some (.deferred (some [])) → Re E W [w.heap.size, w.heap.size + 1] := fun hc h1 h2 =>
  ⟨hc, fun k hk => ⟨hnew k hk, hnS k hk⟩, fun k hk => by
   simp only [List.mem_cons, List.not_mem_nil, or_false] at hk
   rcases hk with rfl | rfl
   · exact ⟨_, h2, rfl⟩
   · exact ⟨_, h1, rfl⟩⟩
 have hre1 : ∀ {W : World}, Chg E.S E.W0 W → W.heap[w.heap.size]? = some (.deferred (some [])) → Re E W [w.heap.size] := fun hc h2 =>
  ⟨hc, fun k hk => by
   obtain rfl : k = w.heap.size := by simpa using hk
   exact ⟨hnew _ hxD, hnS _ hxD⟩, fun k hk => by
   obtain rfl : k = w.heap.size := by simpa using hk
   exact ⟨_, h2, rfl⟩⟩
 have hJ1 : J 0 W1 := ⟨H, h0, R.chg.trans (Chg.of_below hb1), R.heap.below hb1, hL1, hK1⟩
 refine ⟨w.heap.size + 1, [{ target := .collected w.heap.size, args := #[] }], W1, { target := .fn (.func gf) lb.toArray, args := #[.func (.yield (w.heap.size + 1)) #[] #[]] }, W1, gf,
  #[.func (.yield (w.heap.size + 1)) #[] #[]] ++ lb.toArray, W1, ?_, ?_, fun _ _ => trivial, ?_, (fun h => by cases h), ?_⟩
 · rw [← hW1, hrec]; exact run_enterLoop_outer _ _ _ _ _
 ·
  simp only [resolve, R.ev hg]
  simp [go_sem]
 · simp [invoke, run_enters he]
 ·
  refine callsIn_wide.2 ((hIt (w.heap.size + 1) J Jx W1 ?_ ?_ ?_ ?_ hJ1).mono ?_)
  ·
   rintro i A B ⟨H', h1, h2, h3, h4, h5⟩ hb
   exact ⟨H', h1, h2.trans (Chg.of_below hb), h3.below hb, (hb.block _ (Array.getElem?_eq_some_iff.1 h4).1).trans h4, (hb.block _ (Array.getElem?_eq_some_iff.1 h5).1).trans h5⟩
  ·
   rintro A B ⟨H', h1, h2, h3, h4, h5⟩ hb
   exact ⟨H', h1, h2.trans (Chg.of_below hb), h3.below hb, (hb.block _ (Array.getElem?_eq_some_iff.1 h4).1).trans h4, (hb.block _ (Array.getElem?_eq_some_iff.1 h5).1).trans h5⟩
  ·
   rintro i A ⟨H', h1, h2, h3, _⟩
   exact hC i H' A h1 h2 h3
  ·
   rintro i x A ⟨H', hi, hc, hh, hl, hd⟩ hx
   have hy := run_yield (P := P) (args := #[x]) hl (by rw [hrec]; rfl)
   rw [hrec] at hy
   refine ⟨fn, _, assign, body, hy, ?_⟩
   refine roundIn_of_wpIn (n := 0) trivial ?_
   have R0 : Rep E (fr.put E.n (some p) x) H' (a.put (some p) x) A := (⟨R.df, R.size, R.fr, hc, hh⟩ : Rep E fr H' a A).put (some p) x
   have R1 := R0.re (df := []) (hre hc hl hd)
   have e0 : ({ a.put (some p) x with defers := [] } : Act) = { tmps := ((#[p].zip #[x]).foldl (fun tmps (t, a) => tmps.setIfInBounds t a) a.tmps), defers := [] } := by
    simp [Act.put]
   rw [e0] at R1
   refine hassign (w.heap.size + 1) 0 A _ x H' _ ?_ _ _ R1
   intro a1 w1 R2
   have c2 := (hre hc hl hd).chg_back R2.chg
   have hh2 := (hre hc hl hd).hr_back R2.chg R2.heap
   have hl2 := ((hre hc hl hd).keep R2.chg hxL).trans hl
   have hd2 := ((hre hc hl hd).keep R2.chg hxD).trans hd
   refine ⟨_, run_beginRound hl2 (by rw [hrec]), ?_⟩
   have hlt : w.heap.size + 1 < w1.heap.size := (Array.getElem?_eq_some_iff.1 hl2).1
   have c3 : Chg E.S E.W0 (w1.putObj (w.heap.size + 1) (.loop { rec .ready none with state := .busy })) := Chg.putObj c2 (hnew _ hxL)
   have hh3 : HR E H' (w1.putObj (w.heap.size + 1) (.loop { rec .ready none with state := .busy })) := hh2.putObj c2 hl2 rfl
   have hl3 : (w1.putObj (w.heap.size + 1) (.loop { rec .ready none with state := .busy })).heap[w.heap.size + 1]? = some (.loop (rec .busy none)) := by
    rw [World.putObj_heap_same hlt, hrec]
   have hd3 : (w1.putObj (w.heap.size + 1) (.loop { rec .ready none with state := .busy })).heap[w.heap.size]? = some (.deferred (some [])) := (World.putObj_heap_other (by omega)).trans hd2
   have R3 : Rep E (fra x) H' { a1 with defers := [] } (w1.putObj (w.heap.size + 1) (.loop { rec .ready none with state := .busy })) := ⟨hE.symm, R2.size, R2.fr, c3, hh3⟩
   have R4 := R3.re (df := []) (hre c3 hl3 hd3)
   have e1 : ({ a1 with defers := [] } : Act) = a1 := by
    have := R2.df
    cases a1
    simp only at this
    subst this
    rfl
   rw [e1] at R4
   refine hbody (w.heap.size + 1) 0 _ _ i x H' hx hi _ ?_ ?_ (fun _ _ h => h) a1 _ R4
   ·
    intro fr' H'' hI a5 w5 R5
    have c5 := (hre c3 hl3 hd3).chg_back R5.chg
    have hh5 := (hre c3 hl3 hd3).hr_back R5.chg R5.heap
    have hl5 := ((hre c3 hl3 hd3).keep R5.chg hxL).trans hl3
    have hd5 := ((hre c3 hl3 hd3).keep R5.chg hxD).trans hd3
    have hlt5 : w.heap.size + 1 < w5.heap.size := (Array.getElem?_eq_some_iff.1 hl5).1
    refine ⟨_, _, run_endRound none hl5, Or.inl ⟨rfl, H'', hI, c5.putObj (hnew _ hxL), hh5.putObj c5 hl5 rfl, ?_, (World.putObj_heap_other (by omega)).trans hd5⟩⟩
    rw [World.putObj_heap_same hlt5, hrec]
    rfl
   ·
    intro fr' H'' hI a5 w5 R5
    have c5 := (hre c3 hl3 hd3).chg_back R5.chg
    have hh5 := (hre c3 hl3 hd3).hr_back R5.chg R5.heap
    have hl5 := ((hre c3 hl3 hd3).keep R5.chg hxL).trans hl3
    have hd5 := ((hre c3 hl3 hd3).keep R5.chg hxD).trans hd3
    have hlt5 : w.heap.size + 1 < w5.heap.size := (Array.getElem?_eq_some_iff.1 hl5).1
    refine ⟨_, _, run_endRound (some .ret) hl5, Or.inr ⟨rfl, H'', hI, c5.putObj (hnew _ hxL), hh5.putObj c5 hl5 rfl, ?_, (World.putObj_heap_other (by omega)).trans hd5⟩⟩
    rw [World.putObj_heap_same hlt5, hrec]
    rfl
  ·
   rintro e B ⟨⟨v, rfl⟩, h | h⟩
   ·
    obtain ⟨H', hi, hc, hh, hl, hd⟩ := h
    refine ⟨none, _, by have := run_endLoop (P := P) hl (by rw [hrec]; simp); rw [hrec] at this; exact this, ?_⟩
    have c5 : Chg E.S E.W0 (B.putObj (w.heap.size + 1) (.loop { rec .ready none with state := .exhausted })) := hc.putObj (hnew _ hxL)
    have hd5 : (B.putObj (w.heap.size + 1) (.loop { rec .ready none with state := .exhausted })).heap[w.heap.size]? = some (.deferred (some [])) := (World.putObj_heap_other (by omega)).trans hd
    have R5 : Rep E fr H' a (B.putObj (w.heap.size + 1) (.loop { rec .ready none with state := .exhausted })) := ⟨R.df, R.size, R.fr, c5, hh.putObj hc hl rfl⟩
    have := hend w.heap.size _ (hre1 c5 hd5) hd5 H' hi _ _ (R5.re (hre1 c5 hd5))
    rw [hrec] at this
    simpa [hdf] using this
   ·
    obtain ⟨H', hi, hc, hh, hl, hd⟩ := h
    refine ⟨some .ret, _, by have := run_endLoop (P := P) hl (by rw [hrec]; simp); rw [hrec] at this; exact this, ?_⟩
    have c5 : Chg E.S E.W0 (B.putObj (w.heap.size + 1) (.loop { rec .done (some .ret) with state := .exhausted })) := hc.putObj (hnew _ hxL)
    have hd5 : (B.putObj (w.heap.size + 1) (.loop { rec .done (some .ret) with state := .exhausted })).heap[w.heap.size]? = some (.deferred (some [])) := (World.putObj_heap_other (by omega)).trans hd
    have R5 : Rep E fr H' a (B.putObj (w.heap.size + 1) (.loop { rec .done (some .ret) with state := .exhausted })) := ⟨R.df, R.size, R.fr, c5, hh.putObj hc hl rfl⟩
    have := hret w.heap.size _ (hre1 c5 hd5) hd5 H' hi _ _ (R5.re (hre1 c5 hd5))
    rw [hrec] at this
    refine wpIn_ret ?_
    simpa [hdf] using this
end
end SE
end Go


/- Results that lie in cells; a function that holds a range over a function: its beginning and its end; an iterator's yield. -/
namespace Go
namespace SE
open Go.RowKit
set_option linter.unusedVariables false
set_option linter.unusedSimpArgs false
/-- What the function answers, at whatever state that matches. -/
def ResV (P : Program) (fr : Fr) (H : Hp) (fn : Func) (v : Value) : Prop := ∀ E a w, Rep E fr H a w → (results fn a.tmps).run P w = .ok v w
section
variable {P : Program} {E : Env} {fr : Fr} {H : Hp} {fn : Func}
theorem ResV.tmps {rs : List ResultVar} {vs : List Value} (hr : fn.results = rs.toArray) (hv : ResOk fr rs vs) (hl : rs.length ≤ 4 := by decide) : ResV P fr H fn (retV vs) := by
 intro E a w Rp
 obtain ⟨ts, h1, h2⟩ := ResOk.eq Rp.fr hv
 subst h1 h2
 exact run_results hr (Nat.le_trans (Nat.le_of_eq (List.length_map ResultVar.tmp).symm) hl) w
theorem run_cellres {tmps : Array Value} {t : Tmp} {ty : TypeId} {p : Addr} {v : Value} {w : World} (hr : fn.results = #[.cell t ty]) (ht : tmps[t]? = some (.pointer (some p))) (hl : (loadVar ty p).run P w = .ok v w) : (results fn tmps).run P w = .ok v w := by
 simp [results, hr, ht, asAddr, hl]
theorem ResV.cellA {t : Tmp} {ty ty' : TypeId} {b k rest n : Nat} {ow : Bool} {cs : List Value} {D : TypeDesc} (hr : fn.results = #[.cell t ty]) (ht : fr t = some (.pointer (some ⟨b, 0, none⟩))) (hD : P.underlying ty = some D) (hd : aggD D = true) (hz : tsz P ty = some n) (hn : cs.length = n)
  (hk : H k = some ⟨ow, b, 0, ty', cs, rest⟩) : ResV P fr H fn (.agg cs.toArray) := by
 intro E a w R
 subst hn
 refine run_cellres hr (R.fr _ _ ht) ?_
 have h1 := run_loadCells_list (P := P) (w := w) ⟨b, 0, none⟩ cs (fun i v hi => by
  rw [add_addr]
  exact R.heap.cell R.chg hk hi)
 simp [loadVar, run_isAgg hD, hd, run_tsz hz, h1]
/-- What a contract's walk has to show at its end. -/
abbrev Ends (rows : List Row) (post : Value → List Row → Prop) (w0 : World) : Ending → World → Prop := fun e w' => ∃ v rows', e = .returned v ∧ post v rows' ∧ Chg (ownB rows) w0 w' ∧ (∀ r ∈ rows', r.own = true) ∧ HR ⟨w0, ownB rows, 0, []⟩ (hL rows') w'
theorem ends_of {rows rows' : List Row} {post : Value → List Row → Prop} {w0 w : World} {m : Nat} {v : Value} {df : List Deferred} (ks : List Nat) (hk : ks.map H = rows'.map some) (hd : ks.Nodup) (ho : ∀ r ∈ rows', r.own = true) (hp : post v rows')
  (hw : Chg (ownB rows) w0 w) (hH : HR ⟨w0, ownB rows, m, df⟩ H w) : Ends rows post w0 (.returned v) w := by
 refine ⟨_, rows', rfl, hp, hw, ho, ?_⟩
 have hat : ∀ i r, hL rows' i = some r → ∃ k, ks[i]? = some k ∧ H k = some r := fun i r hi => by
  have h1 : (rows'.map some)[i]? = some (some r) := by
   rw [List.getElem?_map]
   unfold hL at hi
   rw [hi]
   rfl
  rw [← hk, List.getElem?_map, Option.map_eq_some_iff] at h1
  exact h1
 refine ⟨fun i r hi => ?_, fun i j r r' hi hj h1 h2 hne hz hz' => ?_⟩
 ·
  obtain ⟨k, _, hk2⟩ := hat i r hi
  exact hH.row k r hk2
 ·
  obtain ⟨k, hk1, hk2⟩ := hat i r hi
  obtain ⟨k', hk1', hk2'⟩ := hat j r' hj
  refine hH.apart k k' r r' hk2 hk2' h1 h2 (fun he => hne ?_) hz hz'
  subst he
  exact nodup_inj hd hk1 hk1'
theorem At.giveV {v : Value} {rows : List Row} {post : Value → List Row → Prop} {w0 : World} {m : Nat} {T : Exit} (hT : T = .ret ∨ T = .normal) (ks : List Nat) {rows' : List Row} (hres : ResV P fr H fn v)
  (hk : ks.map H = rows'.map some) (hd : ks.Nodup) (ho : ∀ r ∈ rows', r.own = true) (hp : post v rows') :
  At ⟨w0, ownB rows, m, []⟩ fr H (bodyPost P fn (Ends rows post w0) T) := by
 intro a w R
 have key : bodyPost P fn (Ends rows post w0) .ret a w := ⟨R.df, _, hres _ _ _ R, ends_of ks hk hd ho hp R.chg R.heap⟩
 rcases hT with rfl | rfl <;> exact key
end
/-! ### An iterator's own walk -/
section
variable {P : Program} {E : Env} {fr : Fr} {H : Hp} {Q : Exit → Act → World → Prop}
/-- .. at another world, where what it reads lies. -/
theorem Rep.other {W0 w w' : World} {n : Nat} {df : List Deferred} {a : Act} (h : Rep ⟨W0, [], n, df⟩ fr H a w) (hH : HR ⟨w', [], n, df⟩ H w') : Rep ⟨w', [], n, df⟩ fr H a w' := ⟨h.df, h.size, h.fr, Chg.refl _ _, hH⟩
theorem view_cell {W : World} {n b : Nat} {df : List Deferred} {v : Value} {r : Row} (hr : r = ⟨false, b, 0, 0, [v], 0⟩) (hc : W.cell? ⟨b, 0, none⟩ = some v) : RowR ⟨W, [], n, df⟩ r W := by
 subst hr
 intro _
 obtain ⟨o, ho, _⟩ := cells_of_cell' hc
 refine ⟨(Array.getElem?_eq_some_iff.1 ho).1, by simp, fun j u hj => ?_⟩
 match j, hj with
 | 0, hj =>
  obtain rfl : v = u := by simpa using hj
  exact hc
 | j + 1, hj => simp at hj
theorem HR.two {W : World} {n b1 b2 : Nat} {df : List Deferred} {v1 v2 : Value} (h1 : W.cell? ⟨b1, 0, none⟩ = some v1) (h2 : W.cell? ⟨b2, 0, none⟩ = some v2) : HR ⟨W, [], n, df⟩ (hOf [(0, ⟨false, b1, 0, 0, [v1], 0⟩), (1, ⟨false, b2, 0, 0, [v2], 0⟩)]) W := by
 have key : ∀ (k : Nat) (r : Row), hOf [(0, ⟨false, b1, 0, 0, [v1], 0⟩), (1, ⟨false, b2, 0, 0, [v2], 0⟩)] k = some r → r = ⟨false, b1, 0, 0, [v1], 0⟩ ∨ r = ⟨false, b2, 0, 0, [v2], 0⟩ := by
  intro k r h
  unfold hOf at h
  split at h
  · exact Or.inl (Option.some.inj h).symm
  ·
   unfold hOf at h
   split at h
   · exact Or.inr (Option.some.inj h).symm
   · cases h
 refine ⟨fun k r hk => ?_, fun k k' r r' hk hk' ho => ?_⟩
 ·
  rcases key k r hk with h | h
  · exact view_cell h h1
  · exact view_cell h h2
 · rcases key k r hk with h | h <;> rw [h] at ho <;> cases ho
end
section
variable {P : Program} {fr : Fr} {H : Hp} {Q : Exit → Act → World → Prop} {fn : Func} {c : Code} {n : Nat} {xs : List Value} {b1 b2 : Nat} {v1 v2 : Value}
abbrev two (b1 b2 : Nat) (v1 v2 : Value) : Hp := hOf [(0, ⟨false, b1, 0, 0, [v1], 0⟩), (1, ⟨false, b2, 0, 0, [v2], 0⟩)]
theorem Iter.loop {J : Nat → World → Prop} {H0 : Hp} (frI : Nat → Fr)
  (h : ∀ i, i ≤ xs.length → ∀ W, J i W → ∀ K : Act → World → Prop, (i < xs.length → ∀ W', J (i + 1) W' → At ⟨W', [], n, []⟩ (frI (i + 1)) H0 K) → At ⟨W, [], n, []⟩ (frI i) H0 (c.wp P (Exit.then K Q))) {W : World} (h0 : J 0 W) :
  At ⟨W, [], n, []⟩ (frI 0) H0 ((Code.loop c).wp P Q) := by
 have key : ∀ m i, i + m = xs.length → ∀ W, J i W → At ⟨W, [], n, []⟩ (frI i) H0 (Code.rounds P c Q (m + 1)) := by
  intro m
  induction m with
  | zero =>
   intro i hi W hJ a w R
   rw [rounds_succ]
   exact h i (by omega) W hJ _ (fun hlt => by omega) a w R
  | succ m ih =>
   intro i hi W hJ a w R
   rw [rounds_succ]
   exact h i (by omega) W hJ _ (fun hlt W' hJ' => ih (i + 1) (by omega) W' hJ') a w R
 exact fun a w R => wp_loop_rounds (xs.length + 1) (key xs.length 0 (by omega) W h0 a w R)
theorem P_makeFunc {o : Oper} {f : FuncId} {caps : List Operand} {vs : List Value} (ho : o.op = .makeFunc (.func f) #[] caps.toArray) (h : ArgsOk fr caps vs) : PStep P fr o (.func (.func f) #[] vs.toArray) := by
 intro a ha w
 have h1 := h.eval ha
 unfold execOp
 simp [ho, Instr.makeFunc, h1]
end

end SE
end Go


/- Arrays held against each other; a conversion of bytes to bytes. -/
namespace Go
namespace SE
open Go.RowKit
set_option linter.unusedVariables false
set_option linter.unusedSimpArgs false
section
variable {P : Program} {E : Env} {fr : Fr} {H : Hp} {o : Oper} {t ty : TypeId} {x y : Operand} {v : Value} {Q : Exit → Act → World → Prop}
theorem run_part1 {e : TypeId} {D : TypeDesc} (hD : P.underlying e = some D) (hd : aggD D = false) {cs : Array Value} {i : Nat} {v : Value} (h : cs[i]? = some v) (w : World) : (part e cs i).run P w = .ok v w := by
 unfold part
 simp [run_isAgg hD, hd, h]
theorem run_equalIn_int' {e : TypeId} {k : IntKind} (hD : P.underlying e = some (.int k)) (d : Nat) (a b : Int) (w : World) : (Op.equalIn (d + 1) e (.int k a) (.int k b)).run P w = .ok (a == b) w := by
 simp [Op.equalIn, run_underlying hD]
theorem run_eqItems_w {n : Nat} {e : TypeId} {k : IntKind} (hD : P.underlying e = some (.int k)) (d : Nat) (xs ys : List (BitVec n)) (w : World) : ∀ is : List Nat, (∀ i ∈ is, i < xs.length ∧ i < ys.length) →
  (Op.eqItems (d + 1) e 1 (xs.map fun b => Value.int k (b.toNat : Int)).toArray (ys.map fun b => Value.int k (b.toNat : Int)).toArray is).run P w = .ok (is.all fun i => xs.getD i 0 == ys.getD i 0) w
 | [], _ => by simp [Op.eqItems]
 | i :: is, h => by
  have hi := h i (by simp)
  have h1 := run_part1 (P := P) (cs := (xs.map fun b => Value.int k (b.toNat : Int)).toArray) (i := i) (v := Value.int k ((xs.getD i 0).toNat : Int)) hD rfl (by simp [hi.1]) w
  have h2 := run_part1 (P := P) (cs := (ys.map fun b => Value.int k (b.toNat : Int)).toArray) (i := i) (v := Value.int k ((ys.getD i 0).toNat : Int)) hD rfl (by simp [hi.2]) w
  have ih := run_eqItems_w hD d xs ys w is fun j hj => h j (by simp [hj])
  simp only [Op.eqItems, Sem.run_bind, Nat.mul_one, h1, h2, Result.andThen_ok, run_equalIn_int' hD, List.all_cons]
  have e1 : (((xs.getD i 0).toNat : Int) == ((ys.getD i 0).toNat : Int)) = (xs.getD i 0 == ys.getD i 0) := by
   rw [Bool.eq_iff_iff]
   simp only [beq_iff_eq, Int.ofNat_inj]
   exact ⟨fun h => BitVec.eq_of_toNat_eq h, fun h => by rw [h]⟩
  rw [e1]
  cases hb : (xs.getD i 0 == ys.getD i 0)
  · simp
  · simpa using ih
theorem all_eq {n m : Nat} {xs ys : List (BitVec n)} (hx : xs.length = m) (hy : ys.length = m) : ((List.range m).all fun i => xs.getD i 0 == ys.getD i 0) = (xs == ys) := by
 rw [Bool.eq_iff_iff]
 simp only [List.all_eq_true, List.mem_range, beq_iff_eq]
 constructor
 ·
  intro h
  apply List.ext_getElem (by rw [hx, hy])
  intro i h1 h2
  have := h i (by omega)
  simpa [h1, h2] using this
 ·
  rintro rfl i _
  rfl
theorem run_eql_arr {n m : Nat} {t e : TypeId} {k : IntKind} {xs ys : List (BitVec n)} (ht : P.underlying t = some (.array m e)) (he : P.underlying e = some (.int k)) (hz : tsz P e = some 1) (hx : xs.length = m) (hy : ys.length = m) (w : World) :
  (Op.equal t (.agg (xs.map fun b => Value.int k (b.toNat : Int)).toArray) (.agg (ys.map fun b => Value.int k (b.toNat : Int)).toArray)).run P w = .ok (xs == ys) w := by
 obtain ⟨i, hi, hs⟩ := Option.map_eq_some_iff.1 hz
 have h1 := run_equalIn_array (P := P) w 9999 (t := t) (xs.map fun b => Value.int k (b.toNat : Int)).toArray (ys.map fun b => Value.int k (b.toNat : Int)).toArray ht hi
 have hc : P.cellsOf e = 1 := by simp [Program.cellsOf, hi, hs]
 rw [hc, run_eqItems_w he 9998 xs ys w _ (by intro i hi; rw [List.mem_range] at hi; omega), all_eq hx hy] at h1
 exact h1
theorem P_neq_arr {n m : Nat} {t e : TypeId} {k : IntKind} {xs ys : List (BitVec n)} (ho : o.op = .binOp .neq t x y ty) (ht : P.underlying t = some (.array m e)) (he : P.underlying e = some (.int k)) (hz : tsz P e = some 1) (hg : P.eqGuardType P.depth t = false)
  (hx : fr.ev x = some (.agg (xs.map fun b => Value.int k (b.toNat : Int)).toArray)) (hy : fr.ev y = some (.agg (ys.map fun b => Value.int k (b.toNat : Int)).toArray)) (hlx : xs.length = m) (hly : ys.length = m) : PStep P fr o (.bool (!(xs == ys))) := by
 intro a ha w
 have h := run_eql_arr (P := P) ht he hz hlx hly w
 unfold execOp
 simp [ho, ha.ev hx, ha.ev hy, eqGuard, binOp, h, program, hg, Sem.run]

/-! ### Bytes turned to bytes: the block bears a mark behind its end -/
theorem HR.refz {w w' : World} {k : Nat} {r : Row} {fz' : Nat × Nat → Nat × Nat} (h : HR E H w) (hk : H k = some r) (ho : r.own = true) (hz : r.cells.length + r.rest ≠ 0) (hc : Chg [r.b] w w')
  (hh : ∀ (cs : Array Value) (fz : Nat × Nat), w.heap[r.b]? = some (.cells cs r.ty fz) → w'.heap[r.b]? = some (.cells cs r.ty (fz' fz))) (hf : ∀ fz : Nat × Nat, (fz = (0, 0) ∨ r.cells.length + r.rest ≤ fz.1) → (fz' fz = (0, 0) ∨ r.cells.length + r.rest ≤ (fz' fz).1)) (hs : r.s = 0 := by rfl) : HR E H w' := by
 obtain ⟨h1, h2, h3, tl, fz, h4, hfz, h5⟩ := h.own_ hk ho hz hs
 refine ⟨fun i x hx => ?_, h.apart⟩
 by_cases hik : i = k
 ·
  subst hik
  rw [hk] at hx
  obtain rfl := Option.some.inj hx
  unfold RowR
  rw [ho]
  exact ⟨Or.inl h1, fun _ => ⟨Nat.lt_of_lt_of_le h2 hc.size, h3, Or.inl ⟨h1, tl, fz' fz, h4, hf fz hfz, hh _ fz h5⟩⟩⟩
 · exact (h.row i x hx).chg hc fun hxo hxz hm => h.apart i k x r hx hk hxo ho hik hxz hz (by simpa using hm)
theorem S_convB (d : Option Tmp) {e : TypeId} {b k n c rest : Nat} {cells : List Value} {K : Fr → Hp → Prop} (ho : o.op = .convert t t x) (ht : P.underlying t = some (.slice e)) (he : P.underlying e = some (.int .u8)) (hx : fr.ev x = some (.slice (some ⟨b, 0, none⟩) n c))
  (hk : H k = some ⟨true, b, 0, ty, cells, rest⟩) (hz : cells.length + rest ≠ 0) (h : K (fr.put E.n d (.slice (some ⟨b, 0, none⟩) n c)) H) (hd : o.dst = d := by rfl) : SStep P E true fr H o K := by
 subst hd
 intro a w R
 obtain ⟨_, e2, e3, tl, fz, e4, e5, e6⟩ := R.heap.own_ hk rfl hz
 dsimp only at e2 e3 e4 e5 e6
 have hrun : (execOp a.eval o).run P w = .ok (.value (.slice (some ⟨b, 0, none⟩) n c)) (w.freeze ⟨b, (cells ++ tl).length, none⟩ 1) := by
  unfold execOp
  have hs : w.shape? b = some (ty, (cells ++ tl).length) := by simp [World.shape?, e6]
  simp [ho, R.ev hx, convert, run_underlying ht, run_underlying he, markStringish, shape, Go.freeze, Sem.run, hs]
 unfold Oper.wp
 rw [hrun]
 have hc : Chg [b] w (w.freeze ⟨b, (cells ++ tl).length, none⟩ 1) := ⟨rfl, rfl, rfl, by simp [World.freeze], fun q _ hq => by
  have hq : b ≠ q := fun he => hq (by simp [he])
  simp [World.freeze, Array.getElem?_modify, hq]⟩
 have R' := R.put o.dst (.slice (some ⟨b, 0, none⟩) n c)
 refine ⟨fun hh => (by cases hh), _, _, h, R'.df, R'.size, R'.fr, R.chg.trans_new hc ?_, ?_⟩
 ·
  intro q hq
  obtain rfl : q = b := by simpa using hq
  exact e3
 ·
  refine R.heap.refz (fz' := fun z => if z.1 == z.2 then ((cells ++ tl).length, (cells ++ tl).length + 1) else (min z.1 (cells ++ tl).length, max z.2 ((cells ++ tl).length + 1))) hk rfl hz hc ?_ ?_
  ·
   intro cs z hcs
   dsimp only at hcs ⊢
   obtain ⟨lo, hi⟩ := z
   simp [World.freeze, Array.getElem?_modify, hcs]
  ·
   rintro ⟨lo, hi⟩ hz2
   right
   dsimp only at hz2 ⊢
   split
   · simp; omega
   ·
    rename_i hne
    rcases hz2 with hz2 | hz2
    · simp at hz2 hne; omega
    · simp; omega

/-! ### A slice of parts, all told -/
def enumV : Nat → List Value → List (Nat × Value)
 | _, [] => []
 | k, v :: vs => (k, v) :: enumV (k + 1) vs
theorem fill_enum : ∀ (vs pre post : List Value), vs.length ≤ post.length → AllL (fun v => v.cells = #[v]) vs → Instr.fill (fun i => some (i * 1, 1)) (pre ++ post).toArray (enumV pre.length vs) = some (pre ++ vs ++ post.drop vs.length).toArray
 | [], pre, post, _, _ => by simp [enumV, Instr.fill]
 | v :: vs, pre, post, hl, h1 => by
  have hv : v.cells = #[v] := h1.mem v (by simp)
  have h2 : AllL (fun v => v.cells = #[v]) vs := by
   cases vs with
   | nil => exact trivial
   | cons u us => exact h1.2
  obtain ⟨p, post, rfl⟩ : ∃ p ps, post = p :: ps := by
   cases post with
   | nil => simp at hl
   | cons p ps => exact ⟨p, ps, rfl⟩
  have ih := fill_enum vs (pre ++ [v]) post (by simpa using hl) h2
  simp only [enumV, Instr.fill, hv]
  rw [if_neg (by simp)]
  have e : (#[v].zipIdx.foldl (fun cs (x : Value × Nat) => cs.setIfInBounds (pre.length * 1 + x.2) x.1) (pre ++ p :: post).toArray) = ((pre ++ [v]) ++ post).toArray := by
   simp
  have e2 : (List.foldl (fun cs (x : Value × Nat) => cs.setIfInBounds (pre.length * 1 + x.2) x.1) (pre ++ p :: post).toArray #[v].zipIdx.toList) = ((pre ++ [v]) ++ post).toArray := by
   simp
  simp only [List.length_append, List.length_cons, List.length_nil, Nat.zero_add] at ih
  rw [show Array.foldl (fun cs x => match x with | (c, j) => cs.setIfInBounds (pre.length * 1 + j) c) (pre ++ p :: post).toArray #[v].zipIdx = ((pre ++ [v]) ++ post).toArray from e, ih]
  simp
theorem S_buildSliceV (d : Option Tmp) (k : Nat) (vs : List Value) {e : TypeId} {n : Nat} {z : Value} {parts : List (Nat × Operand)} {K : Fr → Hp → Prop} (ho : o.op = .buildSlice t n parts.toArray) (ht : P.underlying t = some (.slice e)) (hz : tsz P e = some 1) (hzz : tze P e = some z) (hzc : z.cells.size = 1) (hn : vs.length = n) (hle : n * 1 ≤ 2 ^ 24) (h0 : n * 1 ≠ 0)
  (hp : parts.map (fun p => (p.1, fr.ev p.2)) = (enumV 0 vs).map (fun p => (p.1, some p.2))) (h1 : AllL (fun v => v.cells = #[v]) vs)
  (h : ∀ b, K (fr.put E.n d (.slice (some ⟨b, 0, none⟩) n n)) (H.set k ⟨true, b, 0, e, vs, 0⟩)) (hd : o.dst = d := by rfl) : SStep P E false fr H o K := by
 refine S_buildSlice d k ho ht hz hzz hle h0 hp ?_ h hd
 have hb : ((Array.range (n * 1)).map (z.cells[· % z.cells.size]!)) = ((Array.range (n * 1)).map (z.cells[· % z.cells.size]!)).toList.toArray := by apply Array.ext'; simp
 have := fill_enum vs [] ((Array.range (n * 1)).map (z.cells[· % z.cells.size]!)).toList (by simp; omega) h1
 simp only [List.nil_append, List.length_nil] at this
 rw [← hb] at this
 rw [this, List.drop_eq_nil_of_le (by simp; omega), List.append_nil]
theorem SStep.up {any : Bool} {K : Fr → Hp → Prop} (h : SStep P E false fr H o K) : SStep P E any fr H o K := fun a w R =>
 RG.wp_monoQ (fun a' w' ⟨h1, h2⟩ => ⟨fun _ => h1 rfl, h2⟩) (fun _ _ _ h => h.elim) (fun ⟨_, _, h⟩ => h.elim) (h a w R)

variable {l : List Oper} {n : Nat} {segs : List RG.Seg} {is : List Nat} {i : Nat}
/-! ### A small region that draws its order: all orders, one by one -/
theorem at_op {i : Nat} (h : i < l.length) : l.toArray[i]? = some (l.getD i default) := by simp [h]
end
end SE
end Go


/- The parameters of a law, opened: words, arrays of words, bytes, texts. Generic (no program). -/
namespace Go
namespace ROW
open Go.ChangeShapes Go.WideShapes Go.ChangeAt Go.RowKit Go.SE
set_option linter.unusedVariables false
set_option linter.unusedSimpArgs false
theorem word_of {k : IntKind} {n : Nat} (hk : UK k n) {z : Int} (h : (Lit.int k z).wf = true) : ∃ a : BitVec n, z = (a.toNat : Int) := by
 simp only [Lit.wf, Bool.and_eq_true, decide_eq_true_eq] at h
 cases hk <;> (
  refine ⟨BitVec.ofNat _ z.toNat, ?_⟩
  simp [IntKind.min, IntKind.max, IntKind.signed, IntKind.bits] at h
  simp only [BitVec.toNat_ofNat]
  omega)
theorem words_of {k : IntKind} {n : Nat} (hk : UK k n) : ∀ zs : List Int, (∀ z ∈ zs, (Lit.int k z).wf = true) → ∃ a : List (BitVec n), a.length = zs.length ∧ zs = a.map fun b => (b.toNat : Int)
 | [], _ => ⟨[], rfl, rfl⟩
 | z :: zs, h => by
  obtain ⟨b, rfl⟩ := word_of hk (h z (by simp))
  obtain ⟨a, h1, rfl⟩ := words_of hk zs fun y hy => h y (by simp [hy])
  exact ⟨b :: a, by simp, rfl⟩
theorem ints_of {k : IntKind} : ∀ l : List Value, (∀ i, i < l.length → ∃ z, l[i]? = some (Value.int k z) ∧ (Lit.int k z).wf = true) → ∃ zs : List Int, l = zs.map (Value.int k) ∧ ∀ z ∈ zs, (Lit.int k z).wf = true
 | [], _ => ⟨[], rfl, by simp⟩
 | v :: l, h => by
  obtain ⟨z, hz1, hz2⟩ := h 0 (by simp)
  obtain rfl : v = Value.int k z := by simpa using hz1
  obtain ⟨zs, h1, h2⟩ := ints_of l fun i hi => by simpa using h (i + 1) (by simp; omega)
  refine ⟨z :: zs, by simp [h1], fun y hy => ?_⟩
  rcases List.mem_cons.1 hy with rfl | hy
  · exact hz2
  · exact h2 y hy
theorem open_words {H : Type} {enc : TypeId × Value → H} {P : Program} {W : World} {r : Reach} {b0 m n : Nat} {t e : TypeId} {k : IntKind} {v : Value} {d : DataW H} {p : List MemPlace} (hk : UK k n)
  (ht : P.underlying t = some (.array m e)) (he : P.underlying e = some (.int k)) (hc : P.cellsOf e = 1) (hct : P.cellsOf t = m) (hval : Value.okWide P W r b0 t v)
  (hj : DataW.Trod enc P W 0 (fun _ => true) true t v d p) : ∃ a : List (BitVec n), v = .agg (a.map fun b => Value.int k (b.toNat : Int)).toArray ∧ a.length = m := by
 unfold Value.okWide at hval
 rw [ht] at hval
 obtain ⟨cs, rfl, hsz, _⟩ := hval
 obtain ⟨fuel, hf⟩ := hj
 have hcells : (Value.agg cs).cells.toList = cs.toList := rfl
 rw [hcells] at hf
 cases fuel with
 | zero => cases hf
 | succ fuel =>
  unfold DataW.trod at hf
  rw [ht] at hf
  simp only at hf
  rw [if_pos (by simpa using hsz)] at hf
  obtain ⟨xs, hx, _⟩ := Option.map_eq_some_iff.1 hf
  have hlen : cs.toList.length = m := by rw [← hct]; simpa using hsz
  have hall : ∀ i, i < m → ∃ z, cs.toList[i]? = some (Value.int k z) ∧ (Lit.int k z).wf = true := by
   intro i hi
   have hmem : i ∈ List.range m := List.mem_range.2 hi
   obtain ⟨x, hx1⟩ := mapM_each hx i hmem
   rw [hc, Nat.mul_one] at hx1
   have hg : (cs.toList.drop i).take 1 = [cs.toList[i]'(by omega)] := by
    rw [List.drop_eq_getElem_cons (by omega)]
    rfl
   rw [hg] at hx1
   cases fuel with
   | zero => cases hx1
   | succ fuel =>
    unfold DataW.trod at hx1
    rw [he] at hx1
    split at hx1 <;> simp_all
  have hz := ints_of (k := k) cs.toList fun i hi => hall i (by omega)
  obtain ⟨zs, h1, h2⟩ := hz
  obtain ⟨a, h3, rfl⟩ := words_of hk zs h2
  refine ⟨a, ?_, ?_⟩
  ·
   congr 1
   apply Array.ext'
   rw [h1, List.map_map]
   rfl
  ·
   rw [h1] at hlen
   simpa using hlen
/-- A slice of bytes: where they lie. -/
def Bts (W : World) (A : Option Addr) (c b s : Nat) (l : List (BitVec 8)) : Prop :=
 l.length ≤ c ∧ c ≤ maxLen ∧ (0 < l.length → A = some ⟨b, s, none⟩ ∧ b < W.heap.size) ∧ ∀ (j : Nat) v, (l.map u8V)[j]? = some v → W.cell? ⟨b, s + j, none⟩ = some v
theorem Bts.row {W : World} {A : Option Addr} {c b s t : Nat} {l : List (BitVec 8)} (h : Bts W A c b s l) : (⟨false, b, s, t, l.map u8V, 0⟩ : Row).own = false ∧ ((⟨false, b, s, t, l.map u8V, 0⟩ : Row).cells ≠ [] → (⟨false, b, s, t, l.map u8V, 0⟩ : Row).b < W.heap.size ∧ ∀ (j : Nat) v, (⟨false, b, s, t, l.map u8V, 0⟩ : Row).cells[j]? = some v → W.cell? ⟨(⟨false, b, s, t, l.map u8V, 0⟩ : Row).b, (⟨false, b, s, t, l.map u8V, 0⟩ : Row).s + j, none⟩ = some v) := by
 refine ⟨rfl, fun hne => ⟨(h.2.2.1 ?_).2, h.2.2.2⟩⟩
 cases l with
 | nil => exact absurd rfl hne
 | cons x l => simp
theorem Bts.ad {W : World} {A : Option Addr} {c b s : Nat} {l : List (BitVec 8)} (h : Bts W A c b s l) (h0 : 0 < l.length) : A = some ⟨b, s, none⟩ := (h.2.2.1 h0).1
theorem open_bytes {H : Type} {enc : TypeId × Value → H} {P : Program} {W : World} {r : Reach} {b0 : Nat} {t e : TypeId} {v : Value} {d : DataW H} {p : List MemPlace}
  (ht : P.underlying t = some (.slice e)) (he : P.underlying e = some (.int .u8)) (hc : P.cellsOf e = 1) (hval : Value.okWide P W r b0 t v)
  (hj : DataW.Trod enc P W 0 (fun _ => true) true t v d p) (hlt : ∀ x ∈ p, x.block < W.heap.size) : ∃ A c b s, ∃ l : List (BitVec 8), v = .slice A l.length c ∧ Bts W A c b s l := by
 obtain ⟨A, c, zs, rfl, h1, h2, h3, h4⟩ := open_sl ht he hc hval hj hlt
 obtain ⟨l, hl, rfl⟩ := words_of UK.u8 zs h3
 by_cases h0 : 0 < l.length
 ·
  obtain ⟨b, off, rfl, hb, hcell⟩ := h4 (by simpa using h0)
  refine ⟨_, c, b, off, l, by simp, by simpa using h1, h2, fun _ => ⟨rfl, hb⟩, fun j v hj => ?_⟩
  have hlt := (List.getElem?_eq_some_iff.1 hj).1
  simp only [List.length_map] at hlt
  rw [hcell j (by simpa using hlt)]
  simp only [List.getElem?_map, Option.map_eq_some_iff] at hj
  obtain ⟨x, hx, rfl⟩ := hj
  simp [List.getD, hx]
 ·
  have : l = [] := List.eq_nil_of_length_eq_zero (by omega)
  subst this
  exact ⟨A, c, 0, 0, [], by simp, by simp, h2, fun h => absurd h (by simp), fun j v hj => by simp at hj⟩
end ROW
end Go


/- Calls of closures: a function value that was made of a function and of what it captured. Generic (no program). -/
namespace Go
namespace SE
open Go.RowKit
set_option linter.unusedVariables false
set_option linter.unusedSimpArgs false
section
variable {P : Program} {E : Env} {fr : Fr} {H : Hp} {o : Oper} {v : Value}
theorem run_callC {f : FuncId} {g : Operand} {xs : List Operand} {tys : Array TypeId} {vs lb : List Value} (ho : o.op = .call ⟨.value g, xs.toArray, tys⟩) (hg : fr.ev g = some (.func (.func f) #[] lb.toArray)) (he : entersB P f = true) (ha : ArgsOk fr xs vs) {a : Act} (hf : FrOk fr a) (w : World) :
  (execOp a.eval o).run P w = .ok (.enter f (vs ++ lb).toArray) w := by
 unfold execOp
 have h1 := ha.eval hf
 have h2 := hf.ev hg
 simp [ho, resolve, Deferred.ofValue, invoke, h1, h2, run_enters he]
/-- A call of a closure that reads rows and hands some back. -/
theorem S_callC (d : Option Tmp) (views : List (Nat × Row)) (ks : List Nat) {f : FuncId} {g : Operand} {xs : List Operand} {tys : Array TypeId} {vs lb : List Value} {K : Fr → Hp → Prop} {post : Value → List Row → Prop} (ho : o.op = .call ⟨.value g, xs.toArray, tys⟩) (hg : fr.ev g = some (.func (.func f) #[] lb.toArray)) (he : entersB P f = true) (ha : ArgsOk fr xs vs)
  (hV : ViewsOk H [] views) (hk : ks.Nodup)
  (hcon : Con P f (vs ++ lb) (views.map (·.2)) post) (hl : ∀ v rows', post v rows' → ks.length = rows'.length)
  (h : ∀ v rows', post v rows' → K (fr.put E.n d v) (H.sets ks rows')) (hd : o.dst = d := by rfl) : SStep P E false fr H o K := by
 subst hd
 intro a w R
 unfold Oper.wp
 rw [run_callC ho hg he ha R.fr w]
 have hw := R.chg
 have hH := R.heap
 have hl0 := hH.lift hw [] views (by simp) (by simp) hV.mem
 simp only [List.map_nil, List.nil_append] at hl0
 refine (hcon w hl0).mono fun e w' ⟨v, rows', h1, h2, h3, h4, h5⟩ => ?_
 have hvo : ∀ p ∈ views, p.2.own = false := fun p hp => by
  rcases hV.mem p hp with h1 | ⟨_, r, _, h3, _⟩
  · exact h1.2
  · exact h3
 obtain ⟨h6, h7⟩ := hH.back hw [] views (by simp) hvo (rows' := rows') (by simpa using h3) h4 (by simpa using h5) ks (hl v rows' h2) hk
 have hnil : ownB (views.map (·.2)) = [] := ownB_views fun r hr => by
  obtain ⟨p, hp, rfl⟩ := List.mem_map.1 hr
  exact hvo p hp
 rw [hnil] at h3
 subst h1
 have R' := R.put o.dst v
 exact ⟨fun _ => h3.below, _, _, h v rows' h2, R'.df, R'.size, R'.fr, h7, h6⟩
end
end SE
end Go


/- append of noughts: append(x, make([]T, n)...), which the translation hands to append as a number. Generic (no program). -/
namespace Go
namespace SE
open Go.RowKit
set_option linter.unusedVariables false
set_option linter.unusedSimpArgs false
section
variable {P : Program} {E : Env} {fr : Fr} {H : Hp} {o : Oper} {x y : Operand}
theorem wrap_i64 (m : Nat) (h : m ≤ 140737488355328) : IntKind.i64.wrap (m : Int) = (m : Int) := by
 unfold IntKind.wrap
 simp [IntKind.bits, IntKind.signed]
 omega
end
end SE
end Go


/- Regions that draw their order, walked by all orders of what acts, what is pure put first; rows under other labels; append of nothing. Generic (no program). -/
namespace Go
namespace SE
open Go.RowKit
set_option linter.unusedVariables false
set_option linter.unusedSimpArgs false
section
variable {P : Program} {E : Env} {fr : Fr} {H : Hp} {l : List Oper} {Q : Exit → Act → World → Prop} {v : Value} {i : Nat}
variable {o : Oper} {x y : Operand}
end
end SE
end Go


/- Strings as sources of append; parts of strings. Generic (no program). -/
namespace Go
namespace SE
open Go.RowKit
set_option linter.unusedVariables false
set_option linter.unusedSimpArgs false
section
variable {P : Program} {E : Env} {fr : Fr} {H : Hp} {o : Oper} {x y : Operand}
theorem strB_cells (a : List (BitVec 8)) : (strB a).data.toList.map (fun b => Value.int .u8 (b.toNat : Int)) = a.map u8V := by
 unfold strB
 rw [List.map_map]
 apply List.map_congr_left
 intro b _
 rfl
theorem Src.strV {a : List (BitVec 8)} (hy : fr.ev y = some (strV a)) : Src P E fr H 1 y a.length (a.map u8V) := by
 have h := Src.str (P := P) (E := E) (H := H) hy
 rw [strB_size, strB_cells] at h
 exact h
end
end SE
end Go


/- A slice's array. Generic (no program). -/
namespace Go
namespace SE
open Go.RowKit
set_option linter.unusedVariables false
set_option linter.unusedSimpArgs false
section
variable {P : Program} {E : Env} {fr : Fr} {H : Hp} {o : Oper} {x y : Operand}
end
end SE
end Go


/- A law's parameter that is a struct of two arrays of words. Generic (no program). -/
namespace Go
namespace ROW
open Go.ChangeShapes Go.WideShapes Go.ChangeAt Go.RowKit Go.SE
set_option linter.unusedVariables false
set_option linter.unusedSimpArgs false
end ROW
end Go


/- Two ways that meet again; contracts that hand back an empty row more. Generic (no program). -/
namespace Go
namespace SE
open Go.RowKit
set_option linter.unusedVariables false
set_option linter.unusedSimpArgs false
section
variable {P : Program} {E : Env} {fr : Fr} {H : Hp} {Q : Exit → Act → World → Prop} {F : Fence} {n : Nat}
theorem At.seqJ {c d : Code} (J : Fr → Hp → Prop) (h1 : ∀ K : Act → World → Prop, (∀ fr H, J fr H → At E fr H K) → At E fr H (c.wp P (Exit.then K Q))) (h2 : ∀ fr H, J fr H → At E fr H (d.wp P Q)) : At E fr H ((Code.seq c d).wp P Q) := At.seq (h1 _ h2)
end
end SE
end Go


/- What a parameter of a given form holds: integers, truths, texts, and slices of rows of these, to whatever depth. Generic (no program). -/
namespace Go
namespace ROW
open Go.RowKit Go.ChangeShapes Go.WideShapes Go.ChangeAt Go.SE
set_option linter.unusedVariables false
set_option linter.unusedSimpArgs false
def All2 {α β : Type} (p : α → β → Prop) : List α → List β → Prop
 | [], [] => True
 | a :: as, b :: bs => p a b ∧ All2 p as bs
 | _, _ => False
theorem All2.len {α β : Type} {p : α → β → Prop} : ∀ {as : List α} {bs : List β}, All2 p as bs → as.length = bs.length
 | [], [], _ => rfl
 | a :: as, b :: bs, h => by simp [All2.len h.2]
 | [], _ :: _, h => h.elim
 | _ :: _, [], h => h.elim
theorem All2.split {α β : Type} {p : α → β → Prop} : ∀ {as as' : List α} {cs : List β}, All2 p (as ++ as') cs → ∃ c c', cs = c ++ c' ∧ All2 p as c ∧ All2 p as' c'
 | [], _, cs, h => ⟨[], cs, rfl, trivial, h⟩
 | a :: as, as', b :: bs, h => by
  obtain ⟨c, c', e, h1, h2⟩ := All2.split (as := as) h.2
  exact ⟨b :: c, c', by rw [e]; rfl, ⟨h.1, h1⟩, h2⟩
 | _ :: _, _, [], h => h.elim
theorem All2.one {α β : Type} {p : α → β → Prop} {a : α} {cs : List β} (h : All2 p [a] cs) : ∃ v, cs = [v] ∧ p a v := by
 match cs, h with
 | [v], h => exact ⟨v, rfl, h.1⟩
section
variable {H : Type} {enc : TypeId × Value → H} {P : Program} {W : World}
end
/-! ### Of one kind -/
end ROW
end Go


/- Equality of values without addresses; structs built of parts; a field of a struct's value. Generic (no program). -/
namespace Go
namespace SE
open Go.RowKit Go.ROW
set_option linter.unusedVariables false
set_option linter.unusedSimpArgs false
section
variable {P : Program} {w : World}
end
section
variable {P : Program} {fr : Fr} {o : Oper} {t ty : TypeId} {x y : Operand}
/-- A part of a struct is filled in. -/
theorem fold_splice {α : Type} (off : Nat) : ∀ (vs : List α) (j : Nat) (cs : Array α), off + j + vs.length ≤ cs.size →
  ((vs.toArray.zipIdx j).foldl (fun cs (x : α × Nat) => cs.setIfInBounds (off + x.2) x.1) cs).toList = splice cs.toList (off + j) vs
 | [], j, cs, _ => by
  rw [splice_nil, show (([] : List α).toArray.zipIdx j) = #[] by apply Array.ext'; simp]
  rfl
 | v :: vs, j, cs, h => by
  have hz : ((v :: vs).toArray.zipIdx j).toList = (v, j) :: (vs.toArray.zipIdx (j + 1)).toList := by simp
  have e : ∀ (l : Array (α × Nat)) (c : Array α), (l.foldl (fun cs (x : α × Nat) => cs.setIfInBounds (off + x.2) x.1) c) = l.toList.foldl (fun cs (x : α × Nat) => cs.setIfInBounds (off + x.2) x.1) c := fun l c => by rw [Array.foldl_toList]
  rw [e, hz, List.foldl_cons, ← e, fold_splice off vs (j + 1) _ (by simp at h ⊢; omega)]
  rw [Array.toList_setIfInBounds, show off + (j + 1) = (off + j) + 1 by omega, splice_cons _ _ _ _ (by simp at h ⊢; omega)]
theorem fill_splice {place : Nat → Option (Nat × Nat)} {i off n : Nat} {v : Value} {cs : Array Value} {rest : List (Nat × Value)} {r : Array Value} {vs : List Value} (hp : place i = some (off, n)) (hv : v.cells = vs.toArray) (hn : vs.length = n) (hl : off + n ≤ cs.size) (h : Instr.fill place (splice cs.toList off vs).toArray rest = some r) :
  Instr.fill place cs ((i, v) :: rest) = some r := by
 have h1 := fold_splice off vs 0 cs (by omega)
 unfold Instr.fill
 rw [hp, hv]
 simp only [List.size_toArray, hn]
 rw [if_neg (by simp; omega)]
 have e : (vs.toArray.zipIdx.foldl (fun cs (x : Value × Nat) => cs.setIfInBounds (off + x.2) x.1) cs) = (splice cs.toList off vs).toArray := by
  apply Array.ext'
  simpa using h1
 rw [← h, ← e]
end
end SE
end Go


/- append that may leave the old block as it was, beside a new one; rows of which less is known. Generic (no program). -/
namespace Go
namespace SE
open Go.RowKit
set_option linter.unusedVariables false
set_option linter.unusedSimpArgs false
section
variable {P : Program} {E : Env} {fr : Fr} {H : Hp} {o : Oper} {x y : Operand}
end
end SE
end Go


/- Rows whose cells are segments, one behind the other; sources and views of whole rows and of parts. Generic (no program). -/
namespace Go
namespace SE
open Go.RowKit
set_option linter.unusedVariables false
set_option linter.unusedSimpArgs false
section
variable {α : Type} {l : List (List α)} {i j m n p : Nat} {x vs : List α} {v : α}
theorem seg_split (hx : l[i]? = some x) : l.flatten = (l.take i).flatten ++ (x ++ (l.drop (i + 1)).flatten) := by
 have hi : i < l.length := by
  rcases Nat.lt_or_ge i l.length with h | h
  · exact h
  · rw [List.getElem?_eq_none h] at hx; cases hx
 rw [List.getElem?_eq_getElem hi] at hx
 obtain rfl := Option.some.inj hx
 conv => lhs; rw [← List.take_append_drop i l, List.flatten_append, List.drop_eq_getElem_cons hi, List.flatten_cons]
theorem seg_set_split (hx : l[i]? = some x) (y : List α) : (l.set i y).flatten = (l.take i).flatten ++ (y ++ (l.drop (i + 1)).flatten) := by
 have hi : i < l.length := by
  rcases Nat.lt_or_ge i l.length with h | h
  · exact h
  · rw [List.getElem?_eq_none h] at hx; cases hx
 rw [seg_split (l := l.set i y) (i := i) (x := y) (by simp [hi]), List.take_set_of_le (Nat.le_refl _), List.drop_set_of_lt (Nat.lt_succ_self _)]
theorem seg_at (hx : l[i]? = some x) (hj : ((l.take i).flatten).length = j) (hn : x.length = n) : (l.flatten.drop j).take n = x := by
 rw [seg_split hx, List.drop_left' hj, List.take_left' hn]
theorem seg_get (hx : l[i]? = some x) (hj : ((l.take i).flatten).length + p = m) (hv : x[p]? = some v) : l.flatten[m]? = some v := by
 have hp : p < x.length := by
  rcases Nat.lt_or_ge p x.length with h | h
  · exact h
  · rw [List.getElem?_eq_none h] at hv; cases hv
 rw [seg_split hx, ← hj, List.getElem?_append_right (by omega), Nat.add_sub_cancel_left, List.getElem?_append_left hp, hv]
theorem seg_set (hx : l[i]? = some x) (hj : ((l.take i).flatten).length = m) (hn : vs.length = x.length) : splice l.flatten m vs = (l.set i vs).flatten := by
 rw [seg_split hx, seg_set_split hx, splice, List.take_left' hj, ← List.drop_drop, List.drop_left' hj, List.drop_left' hn.symm, List.append_assoc]
theorem seg_set1 (hx : l[i]? = some x) (hj : ((l.take i).flatten).length + p = m) (hp : p < x.length) : l.flatten.set m v = (l.set i (x.set p v)).flatten := by
 rw [seg_split hx, seg_set_split hx, ← hj, List.set_append, if_neg (by omega), Nat.add_sub_cancel_left, List.set_append, if_pos hp]
end
def OneC (vs : List Value) : Prop := ∀ u ∈ vs, u.oneCell' = true
theorem one_map {α : Type} {f : α → Value} {L : List α} (h : ∀ u, (f u).oneCell' = true) : OneC (L.map f) := by
 intro u hu
 obtain ⟨z, _, rfl⟩ := List.mem_map.1 hu
 exact h z
theorem one_nil : OneC [] := by intro u hu; cases hu
theorem one_cons {v : Value} {vs : List Value} (h : v.oneCell' = true) (t : OneC vs) : OneC (v :: vs) := by
 intro u hu
 rcases List.mem_cons.1 hu with rfl | hu
 · exact h
 · exact t u hu
theorem one_flat0 : OneC ([] : List (List Value)).flatten := one_nil
theorem one_flatc {x : List Value} {l : List (List Value)} (h : OneC x) (t : OneC l.flatten) : OneC (x :: l).flatten := by
 intro u hu
 rw [List.flatten_cons] at hu
 rcases List.mem_append.1 hu with hu | hu
 · exact h u hu
 · exact t u hu
section
variable {P : Program} {E : Env} {fr : Fr} {H : Hp} {o : Oper} {t ty : TypeId} {x y : Operand} {v : Value}
/-- The same cells, told otherwise. -/
theorem At.row {T : Act → World → Prop} (k : Nat) (r : Row) {cs : List Value} (hk : H k = some ⟨r.own, r.b, r.s, r.ty, cs, r.rest⟩) (hcs : cs = r.cells) (h : At E fr (H.set k r) T) : At E fr H T := by
 subst hcs
 refine At.weak (fun _ _ h => h) (fun i r' hr => ?_) h
 rcases Hp.set_some hr with ⟨rfl, rfl⟩ | ⟨_, hr⟩
 · exact hk
 · exact hr
theorem Src.all {α : Type} {f : α → Value} {l : List α} {m c b q k : Nat} {A : Option Addr} {r : Row} (hy : fr.ev y = some (.slice A m c)) (hA : 0 < m → A = some ⟨b, q, none⟩) (hk : 0 < m → H k = some r ∧ r.b = b ∧ r.s + 0 = q) (hl : l.length = m) (hc : r.cells = l.map f := by rfl) : Src P E fr H 1 y m (l.map f) :=
 Src.row (j := 0) hy hA hk (by rw [hc, List.drop_zero, List.take_of_length_le (by rw [List.length_map]; omega)]) (by rw [List.length_map]; omega)
theorem Src.part {α : Type} {f : α → Value} {l : List α} {m c b q k j : Nat} {A : Option Addr} {r : Row} (hy : fr.ev y = some (.slice A m c)) (hA : 0 < m → A = some ⟨b, q, none⟩) (hk : 0 < m → H k = some r ∧ r.b = b ∧ r.s + j = q) (hl : j + m ≤ l.length) (hc : r.cells = l.map f := by rfl) : Src P E fr H 1 y m (((l.drop j).take m).map f) :=
 Src.row (j := j) hy hA hk (by rw [hc, Nat.mul_one, ← List.map_drop, ← List.map_take]) (by rw [List.length_map, List.length_take, List.length_drop]; omega)
theorem Q_strA {s d e : TypeId} {A : Option Addr} {l : List (BitVec 8)} {n c b q k : Nat} {r : Row} (hl : l.length = n) (ho : o.op = .convert s d x) (hs : P.underlying s = some (.slice e)) (he : P.underlying e = some (.int .u8)) (hd : P.underlying d = some .string)
  (hx : fr.ev x = some (.slice A n c)) (hA : 0 < n → A = some ⟨b, q, none⟩) (hk : 0 < n → H k = some r ∧ r.b = b ∧ r.s + 0 = q) (hc : r.cells = l.map u8V := by rfl) : QStep P E fr H o (strV l) :=
 Q_strN (j := 0) hl ho hs he hd hx hA hk (by rw [hc, List.drop_zero, List.take_of_length_le (by rw [List.length_map]; omega)])
theorem Q_strP {s d e : TypeId} {A : Option Addr} {l : List (BitVec 8)} {n c b q k j : Nat} {r : Row} (hl : j + n ≤ l.length) (ho : o.op = .convert s d x) (hs : P.underlying s = some (.slice e)) (he : P.underlying e = some (.int .u8)) (hd : P.underlying d = some .string)
  (hx : fr.ev x = some (.slice A n c)) (hA : 0 < n → A = some ⟨b, q, none⟩) (hk : 0 < n → H k = some r ∧ r.b = b ∧ r.s + j = q) (hc : r.cells = l.map u8V := by rfl) : QStep P E fr H o (strV ((l.drop j).take n)) :=
 Q_strN (j := j) (by rw [List.length_take, List.length_drop]; omega) ho hs he hd hx hA hk (by rw [hc, ← List.map_drop, ← List.map_take])
theorem fill_seg {place : Nat → Option (Nat × Nat)} {i k off n : Nat} {v : Value} {l : List (List Value)} {rest : List (Nat × Value)} {r : Array Value} {vs cs : List Value} (hp : place i = some (off, n)) (hv : v.cells = vs.toArray) (hn : vs.length = n) (hx : l[k]? = some cs) (hxl : cs.length = n) (hoff : ((l.take k).flatten).length = off)
  (h : Instr.fill place ((l.set k vs).flatten).toArray rest = some r) : Instr.fill place (l.flatten).toArray ((i, v) :: rest) = some r := by
 refine fill_splice hp hv hn ?_ ?_
 · rw [seg_split hx]; simp only [List.size_toArray, List.length_append]; omega
 · rw [seg_set hx hoff (by omega)]; exact h
theorem fill_end {place : Nat → Option (Nat × Nat)} {l m : List Value} (h : l = m) : Instr.fill place l.toArray [] = some m.toArray := by
 subst h; rfl
/-- Bytes copied into a segment. -/
theorem Src2.all {l : List (BitVec 8)} {m n c b q k : Nat} {A : Option Addr} {r : Row} (hy : fr.ev y = some (.slice A m c)) (hA : 0 < m → A = some ⟨b, q, none⟩) (hk : 0 < m → H k = some r ∧ r.b = b ∧ r.s + 0 = q) (hn : n ≤ m) (hl : l.length = m) (hc : r.cells = l.map u8V := by rfl) : Src2 P E fr H y m n ((l.take n).map u8V) :=
 Src2.row (j := 0) hy (fun h => hA (by omega)) (fun h => hk (by omega)) (by rw [hc, List.drop_zero, List.map_take]) (by rw [List.length_map, List.length_take]; omega)
end
end SE
end Go


/- A string turned to bytes; a byte of a string. Generic (no program). -/
namespace Go
namespace SE
open Go.RowKit
set_option linter.unusedVariables false
set_option linter.unusedSimpArgs false
section
variable {P : Program} {E : Env} {fr : Fr} {H : Hp} {o : Oper} {t ty : TypeId} {x y : Operand} {v : Value}
end
end SE
end Go


/- Remainders as numbers; equality of values that are segments. Generic (no program). -/
namespace Go
namespace SE
open Go.RowKit
set_option linter.unusedVariables false
set_option linter.unusedSimpArgs false
/-! ### Short words for the proofs that come again and again -/
theorem LN {p : Prop} (h : p := by first | assumption | omega | (simp only [List.length_append, List.length_take, List.length_drop, List.length_map, List.length_replicate, List.length_set, List.length_cons, List.length_nil, List.take_succ_cons, List.take_zero, List.flatten_cons, List.flatten_nil, List.set_cons_zero, List.set_cons_succ]; omega) | with_reducible rfl | (simp; done) | (simp <;> omega)) : p := h
theorem OG {p : Prop} (h : p := by first | omega | (simp only [List.length_append, List.length_take, List.length_drop, List.length_map, List.length_replicate, List.length_set, List.length_cons, List.length_nil, List.take_succ_cons, List.take_zero, List.flatten_cons, List.flatten_nil, List.set_cons_zero, List.set_cons_succ] at *; omega) | (simp <;> omega)) : p := h
theorem NG {l : List Value} (h : l.length ≠ 0 := by first | (simp only [List.length_append, List.length_take, List.length_drop, List.length_map, List.length_replicate, List.length_set, List.length_cons, List.length_nil, List.take_succ_cons, List.take_zero, List.flatten_cons, List.flatten_nil, List.set_cons_zero, List.set_cons_succ]; omega) | (simp <;> omega)) : l ≠ [] := by
 rintro rfl
 exact h rfl
theorem DO {p : Prop} (h : p := by first | decide | omega) : p := h
theorem RO {p : Prop} (h : p := by first | rfl | omega) : p := h
theorem QStep.congr {P : Program} {E : Env} {fr : Fr} {H : Hp} {o : Oper} {v v' : Value} (h : QStep P E fr H o v) (e : v = v') : QStep P E fr H o v' := e ▸ h
theorem take_full {α : Type} {f : α → Value} {l : List α} {n : Nat} {r : Row} (h : l.length = n) (hc : r.cells = l.map f := by rfl) : (r.cells.drop 0).take n = l.map f := by
 rw [hc, List.drop_zero, List.take_of_length_le (by rw [List.length_map]; omega)]
end SE
end Go


/- An array's part of more cells than one; and, or of integers. Generic (no program). -/
namespace Go
namespace SE
open Go.RowKit
set_option linter.unusedVariables false
set_option linter.unusedSimpArgs false
section
variable {P : Program} {fr : Fr} {o : Oper} {t ty : TypeId} {x y : Operand} {v : Value}
theorem P_or_nat {a b : Nat} (ho : o.op = .binOp .or t x y ty) (hx : fr.ev x = some (.int .i64 (a : Int))) (hy : fr.ev y = some (.int .i64 (b : Int))) (ha : a < 9223372036854775808) (hb : b < 9223372036854775808) : PStep P fr o (.int .i64 ((a ||| b : Nat) : Int)) :=
 P_bin' ho hx hy rfl (fun h => absurd h (by decide)) (by
  show Value.int _ (IntKind.i64.wrap ((BitVec.ofInt 64 (a : Int) ||| BitVec.ofInt 64 (b : Int)).toNat : Int)) = _
  have e : (BitVec.ofInt 64 (a : Int) ||| BitVec.ofInt 64 (b : Int)).toNat = a ||| b := by
   rw [BitVec.toNat_or, BitVec.ofInt_natCast, BitVec.ofInt_natCast, BitVec.toNat_ofNat, BitVec.toNat_ofNat, Nat.mod_eq_of_lt (by omega), Nat.mod_eq_of_lt (by omega)]
  have h63 : a ||| b < 2 ^ 63 := Nat.or_lt_two_pow ha hb
  rw [e, i64_in _ (by omega)])
/-- A number moved by eight bits, and a byte. -/
theorem P_or_i8 {a c : Nat} (ho : o.op = .binOp .or t x y ty) (hx : fr.ev x = some (.int .i64 ((a : Int) * 2 ^ 8))) (hy : fr.ev y = some (.int .i64 (c : Int))) (ha : a < 36028797018963968) (hc : c < 256) : PStep P fr o (.int .i64 (((a * 256 + c : Nat)) : Int)) := by
 have h := P_or_nat (P := P) (a := a * 256) (b := c) ho (by rw [hx]; rfl) hy (by omega) (by omega)
 have e : a * 256 ||| c = a * 256 + c := by
  rw [show a * 256 = 2 ^ 8 * a by omega, ← Nat.two_pow_add_eq_or_of_lt (by omega)]
 rw [e] at h
 exact h
end
end SE
end Go


/- Results of which some lie in cells, some in slots. Generic (no program). -/
namespace Go
namespace SE
open Go.RowKit
set_option linter.unusedVariables false
set_option linter.unusedSimpArgs false
section
variable {P : Program} {E : Env} {fr : Fr} {H : Hp} {fn : Func}
/-- What one result is. -/
def ResOne (P : Program) (fr : Fr) (H : Hp) : ResultVar → Value → Prop
 | .tmp t, v => fr t = some v
 | .cell t ty, v => ∃ p, fr t = some (.pointer (some p)) ∧ ∀ E a w, Rep E fr H a w → (loadVar ty p).run P w = .ok v w
theorem ResOne.tmp {t : Tmp} {v : Value} (h : fr t = some v) : ResOne P fr H (.tmp t) v := h
theorem ResOne.cellA {t : Tmp} {ty ty' : TypeId} {b k rest n : Nat} {ow : Bool} {cs : List Value} {D : TypeDesc} (ht : fr t = some (.pointer (some ⟨b, 0, none⟩))) (hD : P.underlying ty = some D) (hd : aggD D = true) (hz : tsz P ty = some n) (hn : cs.length = n)
  (hk : H k = some ⟨ow, b, 0, ty', cs, rest⟩) : ResOne P fr H (.cell t ty) (.agg cs.toArray) := by
 refine ⟨_, ht, fun E a w R => ?_⟩
 subst hn
 have h1 := run_loadCells_list (P := P) (w := w) ⟨b, 0, none⟩ cs (fun i v hi => by
  rw [add_addr]
  exact R.heap.cell R.chg hk hi)
 simp [loadVar, run_isAgg hD, hd, run_tsz hz, h1]
theorem ResV.two {r1 r2 : ResultVar} {v1 v2 : Value} (hr : fn.results = #[r1, r2]) (h1 : ResOne P fr H r1 v1) (h2 : ResOne P fr H r2 v2) : ResV P fr H fn (.tuple #[v1, v2]) := by
 intro E a w R
 have f := R.fr
 cases r1 <;> cases r2 <;> simp only [ResOne] at h1 h2
 · simp [results, hr, f _ _ h1, f _ _ h2]
 ·
  obtain ⟨p, hp, h2⟩ := h2
  simp [results, hr, f _ _ h1, f _ _ hp, asAddr, h2 _ _ _ R]
 ·
  obtain ⟨p, hp, h1⟩ := h1
  simp [results, hr, f _ _ h2, f _ _ hp, asAddr, h1 _ _ _ R]
 ·
  obtain ⟨p, hp, h1⟩ := h1
  obtain ⟨q, hq, h2⟩ := h2
  simp [results, hr, f _ _ hp, f _ _ hq, asAddr, h1 _ _ _ R, h2 _ _ _ R]
end
end SE
end Go


/- Short words for what the older walks prove at each store. Generic (no program). -/
namespace Go
namespace SE
theorem WA {p : Prop} (h : p := by first | (intro u hu; obtain ⟨z, _, rfl⟩ := List.mem_map.1 hu; rfl) | simp [Value.oneCell']) : p := h
theorem WB {p : Prop} (h : p := by first | (simp; done) | (intro h; have h2 := congrArg List.length h; simp only [List.length_map, List.length_nil] at h2; omega) | (intro h; cases h)) : p := h
theorem WC {p : Prop} (h : p := by first | omega | (simp <;> omega) | rfl | (simp [*]; done)) : p := h
theorem WD {p : Prop} (h : p := by first | omega | (simp <;> omega)) : p := h
end SE
end Go


/- All orders of a region that draws, by what is done so far. Generic (no program). -/
namespace Go
namespace SE
open Go.RowKit
set_option linter.unusedVariables false
set_option linter.unusedSimpArgs false
section
variable {P : Program} {E : Env} {fr : Fr} {H : Hp} {l : List Oper} {Q : Exit → Act → World → Prop}
variable {v : Value} {i : Nat}
end
end SE
end Go


/- All orders of a region that draws, by what is done so far; what only reads, or calls and leaves nothing, goes first. Generic (no program). -/
namespace Go
namespace SE
open Go.RowKit
set_option linter.unusedVariables false
set_option linter.unusedSimpArgs false
section
variable {P : Program} {E : Env} {fr : Fr} {H : Hp} {l : List Oper} {Q : Exit → Act → World → Prop} {v : Value} {i : Nat} {anyL : List Nat}
def EB (P : Program) (l : List Oper) (Q : Exit → Act → World → Prop) (anyL : List Nat) (f : Nat) (listed : Array Bool) : Act → World → Prop := fun a w =>
 HeadInv .any l.toArray l.toArray.size listed → RG.wpAnyE P .any l.toArray Q RG.Ext (fun j => anyL.contains j) l.toArray.size
  (fun listed a w => Region.ready .any l.toArray listed = [] ∧ ∀ w2, RG.Ext w w2 → Q .normal a w2) f listed a w
theorem At.into {T : Act → World → Prop} {l : List (Nat × Value)} {m : List (Nat × Row)} (h : At E (frOf l) (hOf m) T) (hf : l.map (fun p => fr p.1) = l.map (fun p => some p.2)) (hH : m.map (fun p => H p.1) = m.map (fun p => some p.2)) : At E fr H T :=
 h.weak (frOf_le fun p hp => List.map_inj_left.1 hf p hp) (hOf_le fun p hp => List.map_inj_left.1 hH p hp)
theorem At.bBruteG {id : Nat} (anyL : List Nat) (J : Fr → Hp → Prop) (hm : P.follows .mixedOrders = true)
  (h : ∀ K : Act → World → Prop, (∀ fr' H', J fr' H' → At E fr' H' K) → ∀ G : Nat → Array Bool → Fr → Hp → Prop, (∀ {f ls fr H}, G f ls fr H → At E fr H (EB P l (Exit.then K Q) anyL f ls)) → (∀ {f ls fr H}, At E fr H (EB P l (Exit.then K Q) anyL f ls) → G f ls fr H) → G l.length (Array.replicate l.toArray.size false) fr H)
  (h2 : ∀ fr' H', J fr' H' → At E fr' H' (Q .normal)) : At E fr H ((Code.region id l.toArray true).wp P Q) := by
 intro a w R
 have e : Exit.then (Q .normal) Q = Q := by
  funext e a w
  cases e <;> rfl
 have := h (Q .normal) h2 (fun f ls fr H => At E fr H (EB P l (Exit.then (Q .normal) Q) anyL f ls)) (fun h => h) (fun h => h) a w.drew R.drew
 rw [e] at this
 refine wp_region_any hm ?_
 have h3 := RG.wpAny_of_E (g := 0) (fun a => RG.Ext.refl a) (fun listed a w hL => ⟨hL.1, hL.2 w (RG.Ext.refl w)⟩) _ _ _ _ (this RG.inv0)
 simpa using h3
theorem At.bEnd {listed : Array Bool} (hr : Region.ready .any l.toArray listed = []) (h : At E fr H (Q .normal)) : At E fr H (EB P l Q anyL 0 listed) :=
 fun a w R _ => ⟨hr, fun w2 h2 => h a w2 (R.below h2)⟩
/-- One act's step. -/
def StepB (P : Program) (E : Env) (l : List Oper) (Q : Exit → Act → World → Prop) (anyL : List Nat) (fr : Fr) (H : Hp) (i : Nat) (K : Act → World → Prop) : Prop :=
 ∀ a w, Rep E fr H a w → wpOp P l.toArray (RG.QX Q) i (fun a' w'' => (anyL.contains i = false → RG.Ext w w'') ∧ K a' w'') a w
theorem At.bStep {fuel : Nat} {listed : Array Bool} (rs : List Nat) (hr : Region.ready .any l.toArray listed = rs) (hne : rs ≠ []) (h : AllL (fun i => StepB P E l Q anyL fr H i (EB P l Q anyL fuel (listed.setIfInBounds i true))) rs) :
  At E fr H (EB P l Q anyL (fuel + 1) listed) := by
 intro a w R inv
 refine ⟨fun h0 => absurd (hr.symm.trans h0) hne, fun w' hw' i hi => ?_⟩
 have hin : i < l.toArray.size := by
  obtain ⟨_, o, ho, _⟩ := mem_ready.1 hi
  exact (Array.getElem?_eq_some_iff.1 ho).1
 exact ⟨hin, wpOp_mono (fun a' w'' h3 => ⟨h3.1, h3.2 (inv.set hi hin)⟩) (h.mem i (by rw [← hr]; exact hi) a w' (R.below hw'))⟩
theorem At.bS {K : Act → World → Prop} (any : Bool) (hb : anyL.contains i = any) (h : SStep P E any fr H (l.getD i default) (fun fr' H' => At E fr' H' K)) (hi : i < l.length := by decide) (hg : (l.getD i default).guard = none := by rfl) : StepB P E l Q anyL fr H i K := by
 intro a w R
 unfold wpOp
 rw [at_op hi]
 simp only [Region.wanted, hg, if_true]
 exact Or.inl (RG.wp_monoQ (fun a' w'' ⟨h0, fr', H', h2, h3⟩ => ⟨fun hc => h0 (hb.symm.trans hc), h2 _ _ h3⟩) (fun _ _ _ h => h.elim) (fun ⟨_, _, h⟩ => h.elim) (h a w R))
/-- What reads, in any order. -/
theorem At.bSQ {K : Act → World → Prop} (d : Option Tmp) (h : QStep P E fr H (l.getD i default) v) (h' : At E (fr.put E.n d v) H K) (hi : i < l.length := by decide) (hg : (l.getD i default).guard = none := by rfl) (hd : (l.getD i default).dst = d := by rfl) : StepB P E l Q anyL fr H i K := by
 intro a w R
 unfold wpOp
 rw [at_op hi]
 simp only [Region.wanted, hg, if_true]
 refine Or.inl ?_
 unfold Oper.wp
 rw [h a w R]
 subst hd
 exact ⟨fun _ => RG.Ext.refl w, h' _ _ (R.put _ v)⟩
/-- Something quiet may go first. -/
theorem bFirst {fuel : Nat} {listed : Array Bool} (s : Bool) (i : Nat) (hsel : Region.noSelect l.toArray = true) (hB : RG.lexQ .any l.toArray l.toArray.size anyL s [i] listed = true)
  (hy : ∀ a w, Rep E fr H a w → ∀ w', (s = true ∨ RG.Ext w w') → wpQuiet P l.toArray (RG.ClX w') (fun a' => a' = a.put (l.getD i default).dst v) [l.getD i default] a)
  (h' : At E (fr.put E.n (l.getD i default).dst v) H (EB P l Q anyL fuel (listed.setIfInBounds i true))) : At E fr H (EB P l Q anyL (fuel + 1) listed) := by
 intro a w R inv
 have hwt : RG.waitB .any l.toArray l.toArray.size = true := by simp [RG.waitB]
 obtain ⟨hn, hw⟩ := RG.waitB_spec hwt
 exact RG.batch (s := s) (anyL := anyL) (n := l.toArray.size) (A := a.put (l.getD i default).dst v) (R := RG.Ext) (Cl := RG.ClX) (f := fuel) hsel hw hn (fun _ _ _ h k => RG.Ext.trans h k) (fun a b h => h) (fun w => RG.ClX.mk (RG.Ext.refl w)) (fun w x h => h.ext)
  (fun listed a w w' hL hr => ⟨hL.1, fun w2 h2 => hL.2 w2 (RG.Ext.trans hr h2)⟩) (fun listed a w hL j hj => by rw [hL.1] at hj; cases hj) [i] listed a inv hB (hy a w R) (fun inv' => h' _ w (R.put _ v) inv')
theorem wantedN {ops : Array Oper} {o : Oper} {t : Array Value} (hg : o.guard = none) : Region.wanted o (yielded ops t) = true := by unfold Region.wanted; rw [hg]
theorem At.bP {fuel : Nat} {listed : Array Bool} (i : Nat) (d : Option Tmp) (h : PStep P fr (l.getD i default) v) (hsel : Region.noSelect l.toArray = true) (hB : RG.lexQ .any l.toArray l.toArray.size anyL true [i] listed = true)
  (h' : At E (fr.put E.n d v) H (EB P l Q anyL fuel (listed.setIfInBounds i true))) (hg : (l.getD i default).guard = none := by rfl) (hd : (l.getD i default).dst = d := by rfl) : At E fr H (EB P l Q anyL (fuel + 1) listed) := by
 subst hd
 refine bFirst true i hsel hB (fun a w R w' _ => ?_) h'
 unfold wpQuiet
 rw [if_pos (wantedN hg)]
 exact ⟨v, fun w2 hw2 => by unfold Oper.quietAt; rw [h a R.fr w2]; exact ⟨rfl, rfl⟩, rfl⟩
theorem At.bQ {fuel : Nat} {listed : Array Bool} (i : Nat) (d : Option Tmp) (h : QStep P E fr H (l.getD i default) v) (hsel : Region.noSelect l.toArray = true) (hB : RG.lexQ .any l.toArray l.toArray.size anyL false [i] listed = true)
  (h' : At E (fr.put E.n d v) H (EB P l Q anyL fuel (listed.setIfInBounds i true))) (hg : (l.getD i default).guard = none := by rfl) (hd : (l.getD i default).dst = d := by rfl) : At E fr H (EB P l Q anyL (fuel + 1) listed) := by
 subst hd
 refine bFirst false i hsel hB (fun a w R w' hw' => ?_) h'
 have hw' : RG.Ext w w' := by simpa using hw'
 unfold wpQuiet
 rw [if_pos (wantedN hg)]
 exact ⟨v, fun w2 hw2 => by unfold Oper.quietAt; rw [h a w2 (R.below (RG.Ext.trans hw' hw2.ext))]; exact ⟨rfl, rfl⟩, rfl⟩
end
end SE
end Go


/- A region that draws its order, whatever the order: what each operation makes, each told once. Generic (no program). -/
namespace Go
namespace SE
open Go.RowKit
set_option linter.unusedVariables false
set_option linter.unusedSimpArgs false
/-- What an operation makes: a value; a new row; a row's cells. -/
inductive OK where
 | q (v : Value)
 | al (lab : Nat) (ty : TypeId) (cs : List Value)
 | st (lab : Nat) (b0 : Option Nat) (ty : TypeId) (cs : List Value) (rest : Nat)
instance : Inhabited OK := ⟨.q undef⟩
def bOf (A : Nat → Nat) (lab : Nat) : Option Nat → Nat
 | some b => b
 | none => A lab
def OK.val (A : Nat → Nat) : OK → Option Value
 | .q v => some v
 | .al lab _ _ => some (.pointer (some ⟨A lab, 0, none⟩))
 | .st _ _ _ _ _ => none
def OK.isAl (k : Nat) : OK → Bool
 | .al lab _ _ => Nat.beq lab k
 | _ => false
def OK.isSt (k : Nat) : OK → Bool
 | .st lab _ _ _ _ => Nat.beq lab k
 | _ => false
def onsB (o : Oper) : List Nat := (o.after.toList.filter (Region.binds .any)).map (·.on)
def ancB (l : List Oper) : Nat → Nat → Nat → Bool
 | 0, _, _ => false
 | f + 1, j, i => (onsB (l.getD j default)).any fun e => Nat.beq e i || ancB l f e i
def isDst (o : Oper) (s : Nat) : Bool := match o.dst with
 | some d => Nat.beq d s
 | none => false
def dstB (l : List Oper) (s : Nat) : Bool := l.any fun o => isDst o s
def dstFree (l : List Oper) (j : Nat) : Bool := match (l.getD j default).dst with
 | none => true
 | some d => (List.range l.length).all fun j' => Nat.beq j' j || !isDst (l.getD j' default) d
def kindFree (l : List Oper) (ks : List OK) (j : Nat) : Bool := match ks.getD j default with
 | .q _ => true
 | .al lab _ _ => (List.range l.length).all fun j' => (Nat.beq j' j || !(ks.getD j' default).isAl lab) && (!(ks.getD j' default).isSt lab || (match ks.getD j' default with
  | .st _ none _ _ _ => ancB l l.length j' j
  | _ => false))
 | .st lab b0 _ _ _ => (l.getD j default).dst.isNone && (List.range l.length).all fun j' => Nat.beq j' j || !(ks.getD j' default).isSt lab
structure OInv (l : List Oper) (ks : List OK) (fr : Fr) (H : Hp) (L : Array Bool) (A : Nat → Nat) (fr' : Fr) (H' : Hp) : Prop where
 init : ∀ s v, fr s = some v → dstB l s = false → fr' s = some v
 done : ∀ j d v, j < l.length → L.getD j false = true → (l.getD j default).dst = some d → (ks.getD j default).val A = some v → fr' d = some v
 row0 : ∀ k r, H k = some r → (∀ j, j < l.length → (ks.getD j default).isAl k = true ∨ (ks.getD j default).isSt k = true → L.getD j false = false) → H' k = some r
 rowA : ∀ j lab ty cs, j < l.length → ks.getD j default = .al lab ty cs → L.getD j false = true → (∀ j', j' < l.length → (ks.getD j' default).isSt lab = true → L.getD j' false = false) → H' lab = some ⟨true, A lab, 0, ty, cs, 0⟩
 rowS : ∀ j lab b0 ty cs rest, j < l.length → ks.getD j default = .st lab b0 ty cs rest → L.getD j false = true → H' lab = some ⟨true, bOf A lab b0, 0, ty, cs, rest⟩
structure ORdy (l : List Oper) (L : Array Bool) (i : Nat) : Prop where
 closed : ∀ j, j < l.length → L.getD j false = true → ∀ e ∈ onsB (l.getD j default), L.getD e false = true ∧ e < l.length
 lt : i < l.length
 un : L.getD i false = false
 ons : ∀ e ∈ onsB (l.getD i default), L.getD e false = true ∧ e < l.length

theorem anc_listed {l : List Oper} {L : Array Bool} (hc : ∀ j, j < l.length → L.getD j false = true → ∀ e ∈ onsB (l.getD j default), L.getD e false = true ∧ e < l.length) :
  ∀ (f j i : Nat), (∀ e ∈ onsB (l.getD j default), L.getD e false = true ∧ e < l.length) → ancB l f j i = true → L.getD i false = true
 | 0, j, i, _, h => by simp [ancB] at h
 | f + 1, j, i, ho, h => by
  unfold ancB at h
  obtain ⟨e, he, h⟩ := List.any_eq_true.1 h
  rcases Bool.or_eq_true_iff.1 h with h | h
  · rw [← Nat.eq_of_beq_eq_true h]; exact (ho e he).1
  · exact anc_listed hc f e i (hc e (ho e he).2 (ho e he).1) h

section
variable {l : List Oper} {ks : List OK} {fr fr' : Fr} {H H' : Hp} {L : Array Bool} {A : Nat → Nat} {i : Nat}
theorem ORdy.not (R : ORdy l L i) {j : Nat} (hj : j < l.length) (h : (Nat.beq j i || ancB l l.length j i) = true) : L.getD j false = false := by
 rcases Bool.or_eq_true_iff.1 h with h | h
 · rw [Nat.eq_of_beq_eq_true h]; exact R.un
 ·
  cases hL : L.getD j false with
  | false => rfl
  | true =>
   have h1 := anc_listed R.closed _ _ _ (R.closed j hj hL) h
   rw [R.un] at h1; cases h1
end

/-- A step that yields a value and leaves what was there. -/
def OStep (P : Program) (E : Env) (fr : Fr) (H : Hp) (o : Oper) (v : Value) : Prop := ∀ a w, Rep E fr H a w → o.wp P a w (fun a' w' => a' = a.put o.dst v ∧ RG.Ext w w') (fun _ _ _ => False)
theorem QStep.o {P : Program} {E : Env} {fr : Fr} {H : Hp} {o : Oper} {v : Value} (h : QStep P E fr H o v) : OStep P E fr H o v := fun a w R => by
 unfold Oper.wp
 rw [h a w R]
 exact ⟨rfl, RG.Ext.refl w⟩
theorem PStep.o {P : Program} {E : Env} {fr : Fr} {H : Hp} {o : Oper} {v : Value} (h : PStep P fr o v) : OStep P E fr H o v := h.q.o
theorem OStep.weak {P : Program} {E : Env} {fr : Fr} {H : Hp} {o : Oper} {v : Value} {sl : List (Nat × Value)} {rw_ : List (Nat × Row)} (hs : AllL (fun p => fr p.1 = some p.2) sl) (hr : AllL (fun p => H p.1 = some p.2) rw_) (h : OStep P E (frOf sl) (hOf rw_) o v) : OStep P E fr H o v :=
 At.weak (T := fun a w => o.wp P a w (fun a' w' => a' = a.put o.dst v ∧ RG.Ext w w') (fun _ _ _ => False)) (frOf_le hs.mem) (hOf_le hr.mem) h
/-- What is owed of an operation. -/
def OGoal (P : Program) (E : Env) (fr : Fr) (H : Hp) (A : Nat → Nat) (o : Oper) : OK → Prop
 | .q v => OStep P E fr H o v
 | .al _ ty cs => ∃ z, o.op = .alloc ty ∧ tze P ty = some z ∧ z.cells.toList = cs
 | .st lab b0 ty cs rest => SStep P E true fr H o fun fr' H' => fr' = fr ∧ H' = H.set lab ⟨true, bOf A lab b0, 0, ty, cs, rest⟩

theorem OGoal.q {P : Program} {E : Env} {fr : Fr} {H : Hp} {A : Nat → Nat} {o : Oper} {k : OK} {v : Value} (hk : k = .q v) (h : OStep P E fr H o v) : OGoal P E fr H A o k := by subst hk; exact h
theorem OGoal.al {P : Program} {E : Env} {fr : Fr} {H : Hp} {A : Nat → Nat} {o : Oper} {k : OK} {lab : Nat} {ty : TypeId} {cs : List Value} {z : Value} (hk : k = .al lab ty cs) (ho : o.op = .alloc ty) (hz : tze P ty = some z) (hc : z.cells.toList = cs) : OGoal P E fr H A o k := by subst hk; exact ⟨z, ho, hz, hc⟩
theorem OGoal.st {P : Program} {E : Env} {fr : Fr} {H : Hp} {A : Nat → Nat} {o : Oper} {k : OK} {lab : Nat} {b0 : Option Nat} {ty : TypeId} {cs : List Value} {rest : Nat} (hk : k = .st lab b0 ty cs rest) (h : SStep P E true fr H o fun fr' H' => fr' = fr ∧ H' = H.set lab ⟨true, bOf A lab b0, 0, ty, cs, rest⟩) : OGoal P E fr H A o k := by subst hk; exact h

section
variable {l : List Oper} {ks : List OK} {fr fr' : Fr} {H H' : Hp} {L : Array Bool} {A : Nat → Nat} {i : Nat} {n : Nat}
theorem dstFree_ne {d : Nat} (h : dstFree l i = true) (hi : (l.getD i default).dst = some d) {j : Nat} (hj : j < l.length) (hne : j ≠ i) : (l.getD j default).dst ≠ some d := by
 unfold dstFree at h
 rw [hi] at h
 have h1 := List.all_eq_true.1 h j (List.mem_range.2 hj)
 rw [bnf hne, Bool.false_or] at h1
 intro he
 unfold isDst at h1
 rw [he] at h1
 simp at h1
theorem put_same {d : Nat} {v : Value} (hd : d < n) : Fr.put n fr (some d) v d = some v := by
 have : Nat.blt d n = true := by simpa using hd
 simp [Fr.put, this]
theorem put_ne {d s : Nat} {v : Value} (hd : s ≠ d) : Fr.put n fr (some d) v s = fr s := by simp [Fr.put, bnf hd]
theorem set_back {j : Nat} (h : (L.setIfInBounds i true).getD j false = false) : L.getD j false = false := by
 cases hL : L.getD j false with
 | false => rfl
 | true => rw [getD_set_true hL] at h; cases h
theorem set_ne {j : Nat} (hne : j ≠ i) (h : (L.setIfInBounds i true).getD j false = true) : L.getD j false = true := by rwa [getD_set_ne false (Ne.symm hne)] at h
theorem set_at (hi : i < L.size) : (L.setIfInBounds i true).getD i false = true := by simp [hi]

/-- The frame's part of a step. -/
theorem OInv.fr_step (I : OInv l ks fr H L A fr' H') {A' : Nat → Nat} (hi : i < l.length) (hdf : dstFree l i = true) (v : Value) (hv : (l.getD i default).dst.isSome = true → (ks.getD i default).val A' = some v) (hlt : ∀ d, (l.getD i default).dst = some d → d < n)
  (hA : ∀ j, j < l.length → j ≠ i → (ks.getD j default).val A' = (ks.getD j default).val A) :
  (∀ s v', fr s = some v' → dstB l s = false → fr'.put n (l.getD i default).dst v s = some v') ∧
  (∀ j d v', j < l.length → (L.setIfInBounds i true).getD j false = true → (l.getD j default).dst = some d → (ks.getD j default).val A' = some v' → fr'.put n (l.getD i default).dst v d = some v') := by
 cases hd : (l.getD i default).dst with
 | none =>
  refine ⟨fun s v' h1 h2 => I.init s v' h1 h2, fun j d v' hj hL hjd hjv => ?_⟩
  have hne : j ≠ i := fun e => by subst e; rw [hd] at hjd; cases hjd
  exact I.done j d v' hj (set_ne hne hL) hjd (by rw [← hA j hj hne]; exact hjv)
 | some d =>
  refine ⟨fun s v' h1 h2 => ?_, fun j d' v' hj hL hjd hjv => ?_⟩
  ·
   rw [put_ne]
   · exact I.init s v' h1 h2
   ·
    rintro rfl
    have h3 : dstB l s = true := by
     unfold dstB
     refine List.any_eq_true.2 ⟨l.getD i default, ?_, ?_⟩
     · simp [hi]
     · unfold isDst; rw [hd]; simp
    rw [h2] at h3; cases h3
  ·
   by_cases hne : j = i
   ·
    subst hne
    rw [hd] at hjd
    cases hjd
    have h4 := hv (by rw [hd]; rfl)
    rw [hjv] at h4
    rw [put_same (hlt _ hd)]
    exact h4.symm
   ·
    rw [put_ne]
    · exact I.done j d' v' hj (set_ne hne hL) hjd (by rw [← hA j hj hne]; exact hjv)
    ·
     rintro rfl
     exact dstFree_ne hdf hd hj hne hjd
theorem OInv.q (I : OInv l ks fr H L A fr' H') (hi : i < l.length) (hdf : dstFree l i = true) {v : Value} (hk : ks.getD i default = .q v) (hlt : ∀ d, (l.getD i default).dst = some d → d < n) :
  OInv l ks fr H (L.setIfInBounds i true) A (fr'.put n (l.getD i default).dst v) H' := by
 obtain ⟨h1, h2⟩ := I.fr_step (A' := A) hi hdf v (fun _ => by rw [hk]; rfl) hlt (fun _ _ _ => rfl)
 refine ⟨h1, h2, fun k r hr hj => I.row0 k r hr fun j hj' ht => set_back (hj j hj' ht), fun j lab ty cs hj hkj hL hn => ?_, fun j lab b0 ty cs rest hj hkj hL => ?_⟩
 ·
  have hne : j ≠ i := fun e => by subst e; rw [hk] at hkj; cases hkj
  exact I.rowA j lab ty cs hj hkj (set_ne hne hL) fun j' hj' hs => set_back (hn j' hj' hs)
 ·
  have hne : j ≠ i := fun e => by subst e; rw [hk] at hkj; cases hkj
  exact I.rowS j lab b0 ty cs rest hj hkj (set_ne hne hL)
theorem OInv.al (I : OInv l ks fr H L A fr' H') (R : ORdy l L i) (hs : i < L.size) (hdf : dstFree l i = true) (hkf : kindFree l ks i = true) {lab : Nat} {ty : TypeId} {cs : List Value} (hk : ks.getD i default = .al lab ty cs) (hlt : ∀ d, (l.getD i default).dst = some d → d < n) (b : Nat) :
  OInv l ks fr H (L.setIfInBounds i true) (fun k => if k = lab then b else A k) (fr'.put n (l.getD i default).dst (.pointer (some ⟨b, 0, none⟩))) (H'.set lab ⟨true, b, 0, ty, cs, 0⟩) := by
 have hi := R.lt
 unfold kindFree at hkf
 rw [hk] at hkf
 have hkf' : ∀ j, j < l.length → (j = i ∨ (ks.getD j default).isAl lab = false) ∧ ((ks.getD j default).isSt lab = true → L.getD j false = false) := fun j hj => by
  have h1 := List.all_eq_true.1 hkf j (List.mem_range.2 hj)
  rw [Bool.and_eq_true] at h1
  refine ⟨?_, fun hst => ?_⟩
  ·
   rcases Bool.or_eq_true_iff.1 h1.1 with h2 | h2
   · exact .inl (Nat.eq_of_beq_eq_true h2)
   · exact .inr (by simpa using h2)
  ·
   rw [hst, Bool.not_true, Bool.false_or] at h1
   refine R.not hj ?_
   rw [Bool.or_eq_true]
   refine Or.inr ?_
   have h3 := h1.2
   split at h3
   · exact h3
   · cases h3
 have hA : ∀ j, j < l.length → j ≠ i → (ks.getD j default).val (fun k => if k = lab then b else A k) = (ks.getD j default).val A := fun j hj hne => by
  rcases (hkf' j hj).1 with h1 | h1
  · exact absurd h1 hne
  ·
   cases hkj : ks.getD j default with
   | q v => rfl
   | al lab' ty' cs' =>
    rw [hkj] at h1
    have : lab' ≠ lab := bne h1
    simp [OK.val, this]
   | st => rfl
 obtain ⟨h1, h2⟩ := I.fr_step (A' := fun k => if k = lab then b else A k) hi hdf (.pointer (some ⟨b, 0, none⟩)) (fun _ => by rw [hk]; simp [OK.val]) hlt hA
 have hthis : (L.setIfInBounds i true).getD i false = true := set_at hs
 refine ⟨h1, h2, fun k r hr hj => ?_, fun j lab' ty' cs' hj hkj hL hn => ?_, fun j lab' b0 ty' cs' rest hj hkj hL => ?_⟩
 ·
  have hne : k ≠ lab := by
   rintro rfl
   have := hj i hi (.inl (by rw [hk]; simp [OK.isAl]))
   rw [hthis] at this; cases this
  rw [Hp.set_ne _ _ hne]
  exact I.row0 k r hr fun j hj' ht => set_back (hj j hj' ht)
 ·
  by_cases hne : j = i
  ·
   subst hne
   rw [hk] at hkj
   cases hkj
   simp [Hp.set_same]
  ·
   have hl : lab' ≠ lab := by
    rcases (hkf' j hj).1 with h3 | h3
    · exact absurd h3 hne
    · rw [hkj] at h3; exact bne h3
   rw [Hp.set_ne _ _ hl]
   simp only [hl, if_false]
   exact I.rowA j lab' ty' cs' hj hkj (set_ne hne hL) fun j' hj' hs' => set_back (hn j' hj' hs')
 ·
  have hne : j ≠ i := fun e => by subst e; rw [hk] at hkj; cases hkj
  have hLj := set_ne hne hL
  have hl : lab' ≠ lab := by
   rintro rfl
   have := (hkf' j hj).2 (by rw [hkj]; simp [OK.isSt])
   rw [hLj] at this; cases this
  rw [Hp.set_ne _ _ hl]
  have := I.rowS j lab' b0 ty' cs' rest hj hkj hLj
  cases b0 with
  | some b1 => exact this
  | none => simpa [bOf, hl] using this
theorem OInv.st (I : OInv l ks fr H L A fr' H') (hi : i < l.length) (hs : i < L.size) (hkf : kindFree l ks i = true) {lab : Nat} {b0 : Option Nat} {ty : TypeId} {cs : List Value} {rest : Nat} (hk : ks.getD i default = .st lab b0 ty cs rest) :
  OInv l ks fr H (L.setIfInBounds i true) A fr' (H'.set lab ⟨true, bOf A lab b0, 0, ty, cs, rest⟩) := by
 unfold kindFree at hkf
 rw [hk] at hkf
 rw [Bool.and_eq_true] at hkf
 have hdn : (l.getD i default).dst = none := by
  cases hd : (l.getD i default).dst with
  | none => rfl
  | some d => rw [hd] at hkf; simp at hkf
 have hkf' : ∀ j, j < l.length → j ≠ i → (ks.getD j default).isSt lab = false := fun j hj hne => by
  have h1 := List.all_eq_true.1 hkf.2 j (List.mem_range.2 hj)
  rw [bnf hne, Bool.false_or] at h1
  simpa using h1
 have hthis : (L.setIfInBounds i true).getD i false = true := set_at hs
 refine ⟨I.init, fun j d v hj hL hjd hjv => ?_, fun k r hr hj => ?_, fun j lab' ty' cs' hj hkj hL hn => ?_, fun j lab' b0' ty' cs' rest' hj hkj hL => ?_⟩
 ·
  have hne : j ≠ i := fun e => by subst e; rw [hdn] at hjd; cases hjd
  exact I.done j d v hj (set_ne hne hL) hjd hjv
 ·
  have hne : k ≠ lab := by
   rintro rfl
   have := hj i hi (.inr (by rw [hk]; simp [OK.isSt]))
   rw [hthis] at this; cases this
  rw [Hp.set_ne _ _ hne]
  exact I.row0 k r hr fun j hj' ht => set_back (hj j hj' ht)
 ·
  have hne : j ≠ i := fun e => by subst e; rw [hk] at hkj; cases hkj
  have hl : lab' ≠ lab := by
   rintro rfl
   have := hn i hi (by rw [hk]; simp [OK.isSt])
   rw [hthis] at this; cases this
  rw [Hp.set_ne _ _ hl]
  exact I.rowA j lab' ty' cs' hj hkj (set_ne hne hL) fun j' hj' hs' => set_back (hn j' hj' hs')
 ·
  by_cases hne : j = i
  ·
   subst hne
   rw [hk] at hkj
   cases hkj
   simp [Hp.set_same]
  ·
   have hl : lab' ≠ lab := by
    have h3 := hkf' j hj hne
    rw [hkj] at h3; exact bne h3
   rw [Hp.set_ne _ _ hl]
   exact I.rowS j lab' b0' ty' cs' rest' hj hkj (set_ne hne hL)
end

section
variable {P : Program} {E : Env} {l : List Oper} {ks : List OK} {fr : Fr} {H : Hp} {Q : Exit → Act → World → Prop}
end
end SE
end Go


/- Families of rows: row i under the label b + 16 * i, for the i that D allows. -/
namespace Go
namespace SE
open Go.RowKit
set_option linter.unusedVariables false
set_option linter.unusedSimpArgs false
structure Fam where
 b : Nat
 D : Nat → Bool
 F : Nat → Row
def lf (b i : Nat) : Nat := b + 16 * i
/-- Is the label one of the family's? -/
def Fam.has (f : Fam) (k : Nat) : Bool := Nat.ble f.b k && Nat.beq ((k - f.b) % 16) 0 && f.D ((k - f.b) / 16)
def famsOf (H : Hp) : List Fam → Hp
 | [] => H
 | f :: l => fun k => match f.has k with
  | true => some (f.F ((k - f.b) / 16))
  | false => famsOf H l k
def dlt (m i : Nat) : Bool := Nat.blt i m
def dbut (m j i : Nat) : Bool := Nat.blt i m && !Nat.beq i j
theorem beq_f (i j : Nat) : (Nat.beq i j = false) = ¬ (i = j) := propext ⟨fun h => bne h, fun h => bnf h⟩
theorem dlt_iff {m i : Nat} : dlt m i = true ↔ i < m := by simp [dlt]
theorem dbut_iff {m j i : Nat} : dbut m j i = true ↔ i < m ∧ i ≠ j := by simp [dbut, beq_f]
theorem lf_idx (b i : Nat) : (lf b i - b) / 16 = i := by unfold lf; omega
theorem has_lf (f : Fam) (i : Nat) : f.has (lf f.b i) = f.D i := by
 unfold Fam.has
 rw [lf_idx, Nat.ble_eq_true_of_le (show f.b ≤ lf f.b i by unfold lf; omega)]
 have : (lf f.b i - f.b) % 16 = 0 := by unfold lf; omega
 rw [this]
 rfl
theorem has_some {f : Fam} {k : Nat} (h : f.has k = true) : ∃ i, k = lf f.b i ∧ f.D i = true := by
 unfold Fam.has at h
 simp only [Bool.and_eq_true, Nat.ble_eq, Nat.beq_eq] at h
 refine ⟨(k - f.b) / 16, ?_, h.2⟩
 unfold lf
 omega
/-- The family's rows are there. -/
def FamOk (H : Hp) (f : Fam) : Prop := ∀ i, f.D i = true → H (lf f.b i) = some (f.F i)
theorem FamOk.hd {H : Hp} {f : Fam} {l : List Fam} : FamOk (famsOf H (f :: l)) f := fun i hi => by
 show (match f.has (lf f.b i) with | true => some (f.F ((lf f.b i - f.b) / 16)) | false => _) = _
 rw [has_lf, hi, lf_idx]
theorem FamOk.tl {H : Hp} {f g : Fam} {l : List Fam} (hb : (Nat.ble f.b (g.b + 15) && Nat.ble g.b (f.b + 15) && !Nat.beq f.b g.b) = true) (h : FamOk (famsOf H l) f) : FamOk (famsOf H (g :: l)) f := fun i hi => by
 have hn : g.has (lf f.b i) = false := by
  cases hh : g.has (lf f.b i) with
  | false => rfl
  | true =>
   obtain ⟨j, hj, _⟩ := has_some hh
   simp [beq_f] at hb
   unfold lf at hj
   omega
 show (match g.has (lf f.b i) with | true => some (g.F ((lf f.b i - g.b) / 16)) | false => famsOf H l (lf f.b i)) = _
 rw [hn]
 exact h i hi
theorem FamOk.set {H : Hp} {f : Fam} {k : Nat} {r : Row} (hk : Nat.blt k f.b = true) (h : FamOk H f) : FamOk (H.set k r) f := fun i hi => by
 rw [Hp.set_ne]
 · exact h i hi
 ·
  simp only [Nat.blt_eq] at hk
  unfold lf
  omega
theorem FamOk.del {H : Hp} {f : Fam} {k : Nat} (hk : Nat.blt k f.b = true) (h : FamOk H f) : FamOk (H.del k) f := fun i hi => by
 unfold Hp.del
 have : Nat.beq (lf f.b i) k = false := bnf (by simp only [Nat.blt_eq] at hk; unfold lf; omega)
 rw [this]
 exact h i hi
theorem FamOk.nil {H : Hp} {b : Nat} {D : Nat → Bool} {F : Nat → Row} (h : ∀ i, D i = false) : FamOk H ⟨b, D, F⟩ := fun i hi => by
 have hi : D i = true := hi
 rw [h i] at hi
 cases hi
theorem FamOk.congr {H : Hp} {b : Nat} {D D' : Nat → Bool} {F F' : Nat → Row} (h : FamOk H ⟨b, D, F⟩) (hF : ∀ i, D' i = true → D i = true ∧ F' i = F i) : FamOk H ⟨b, D', F'⟩ := fun i hi => by
 have h1 := h i (hF i hi).1
 show H (lf b i) = some (F' i)
 rw [(hF i hi).2]
 exact h1
section
variable {E : Env} {fr : Fr} {H : Hp}
end
/-! ### Slices of bytes, in a slice -/
structure BE where
 A : Option Addr
 b : Nat
 c : Nat
 l : List (BitVec 8)
instance : Inhabited BE := ⟨⟨none, 0, 0, []⟩⟩
def BE.ok (e : BE) : Prop := (0 < e.c → e.A = some ⟨e.b, 0, none⟩) ∧ e.l.length ≤ e.c
abbrev BE.v (e : BE) : Value := .slice e.A e.l.length e.c
abbrev BE.row (ty : TypeId) (e : BE) : Row := ⟨true, e.b, 0, ty, e.l.map u8V, e.c - e.l.length⟩
abbrev famB (b : Nat) (ty : TypeId) (es : List BE) : Fam := ⟨b, dlt es.length, fun i => (es.getD i default).row ty⟩
abbrev famBut (b : Nat) (ty : TypeId) (es : List BE) (j : Nat) : Fam := ⟨b, dbut es.length j, fun i => (es.getD i default).row ty⟩
section
variable {E : Env} {fr : Fr} {T : Act → World → Prop} {b k : Nat} {ty : TypeId} {es : List BE} {m : List (Nat × Row)} {fs : List Fam}
theorem FamOk.but {H : Hp} {j : Nat} (h : FamOk H (famB b ty es)) : FamOk H (famBut b ty es j) := h.congr fun i hi => ⟨dlt_iff.2 (dbut_iff.1 hi).1, rfl⟩
end
/-! ### Families handed over -/
section
variable {P : Program} {E : Env} {fr : Fr} {H : Hp} {o : Oper}
end
end SE
end Go


/- Slices of structs: a row's cells are those of its elements, one behind the other. -/
namespace Go
namespace SE
open Go.RowKit
set_option linter.unusedVariables false
set_option linter.unusedSimpArgs false
/-- How an element lies in cells. -/
structure Enc (α : Type) where
 f : α → List Value
 sz : Nat
 pos : 0 < sz
 len : ∀ a, (f a).length = sz
 one : ∀ a, ∀ u ∈ f a, u.oneCell' = true
def encs {α : Type} (e : Enc α) (L : List α) : List Value := L.flatMap e.f
section
variable {α : Type} {e : Enc α}
theorem encs_len (L : List α) : (encs e L).length = L.length * e.sz := by
 induction L with
 | nil => simp [encs]
 | cons a L ih =>
  unfold encs at ih ⊢
  rw [List.flatMap_cons, List.length_append, ih, e.len, List.length_cons, Nat.add_mul, Nat.one_mul, Nat.add_comm]
theorem encs_app (L M : List α) : encs e (L ++ M) = encs e L ++ encs e M := by simp [encs]
theorem encs_take (L : List α) (n : Nat) : (encs e L).take (n * e.sz) = encs e (L.take n) := by
 by_cases h : n ≤ L.length
 ·
  have h1 : L = L.take n ++ L.drop n := (List.take_append_drop n L).symm
  have h2 : (encs e (L.take n)).length = n * e.sz := by rw [encs_len, List.length_take, Nat.min_eq_left h]
  conv => lhs; rw [h1, encs_app]
  rw [← h2, List.take_left]
 · rw [List.take_of_length_le (by rw [encs_len]; exact Nat.mul_le_mul_right _ (by omega)), List.take_of_length_le (by omega)]
theorem encs_drop (L : List α) (n : Nat) : (encs e L).drop (n * e.sz) = encs e (L.drop n) := by
 by_cases h : n ≤ L.length
 ·
  have h1 : L = L.take n ++ L.drop n := (List.take_append_drop n L).symm
  have h2 : (encs e (L.take n)).length = n * e.sz := by rw [encs_len, List.length_take, Nat.min_eq_left h]
  conv => lhs; rw [h1, encs_app]
  rw [← h2, List.drop_left]
 ·
  rw [List.drop_eq_nil_of_le (by rw [encs_len]; exact Nat.mul_le_mul_right _ (by omega)), List.drop_eq_nil_of_le (by omega)]
  rfl
end

section
variable {P : Program} {E : Env} {fr : Fr} {H : Hp} {o : Oper} {t ty : TypeId} {x y : Operand} {v : Value} {α : Type} {en : Enc α}
theorem SrcE.all {L : List α} {m c b q k sz : Nat} {A : Option Addr} {r : Row} (hs : en.sz = sz) (hy : fr.ev y = some (.slice A m c)) (hA : 0 < m → A = some ⟨b, q, none⟩) (hk : 0 < m → H k = some r ∧ r.b = b ∧ r.s + 0 = q) (hl : L.length = m) (hc : r.cells = encs en L := by rfl) : Src P E fr H sz y m (encs en L) := by
 subst hs
 exact Src.row (j := 0) hy hA hk (by rw [hc, List.drop_zero, List.take_of_length_le (by rw [encs_len, hl]; exact Nat.le_refl _)]) (by rw [encs_len, hl])
theorem SrcE.part {L : List α} {m c b q k j sz : Nat} {A : Option Addr} {r : Row} (hs : en.sz = sz) (hy : fr.ev y = some (.slice A m c)) (hA : 0 < m → A = some ⟨b, q, none⟩) (hk : 0 < m → H k = some r ∧ r.b = b ∧ r.s + j * sz = q) (hl : j + m ≤ L.length) (hc : r.cells = encs en L := by rfl) : Src P E fr H sz y m (encs en ((L.drop j).take m)) := by
 subst hs
 exact Src.row (j := j * en.sz) hy hA hk (by rw [hc, encs_drop, encs_take]) (by rw [encs_len, List.length_take, List.length_drop, Nat.min_eq_left (by omega)])
theorem SrcE.tail {L : List α} {m c b q k j sz : Nat} {A : Option Addr} {r : Row} (hs : en.sz = sz) (hy : fr.ev y = some (.slice A m c)) (hA : 0 < m → A = some ⟨b, q, none⟩) (hk : 0 < m → H k = some r ∧ r.b = b ∧ r.s + j * sz = q) (hl : j + m = L.length) (hc : r.cells = encs en L := by rfl) : Src P E fr H sz y m (encs en (L.drop j)) := by
 have h := SrcE.part (P := P) (E := E) (en := en) (L := L) hs hy hA hk (Nat.le_of_eq hl) hc
 rwa [List.take_of_length_le (l := L.drop j) (by rw [List.length_drop]; omega)] at h
end
end SE
end Go


/- append in place, into a block of whatever type: cells of one kind. -/
namespace Go
namespace SE
open Go.RowKit
set_option linter.unusedVariables false
set_option linter.unusedSimpArgs false
section
variable {P : Program} {E : Env} {fr : Fr} {H : Hp} {o : Oper} {x y : Operand}
end
end SE
end Go


/- Calls of function values: with what they are bound to ahead and what they captured behind; rows of one's own among what they change. Generic (no program). -/
namespace Go
namespace SE
open Go.RowKit
set_option linter.unusedVariables false
set_option linter.unusedSimpArgs false
section
variable {P : Program} {E : Env} {fr : Fr} {H : Hp} {o : Oper} {v : Value}
theorem P_makeFuncF {o : Oper} {f : FuncId} {fst caps : List Operand} {us vs : List Value} (ho : o.op = .makeFunc (.func f) fst.toArray caps.toArray) (h1 : ArgsOk fr fst us) (h : ArgsOk fr caps vs) : PStep P fr o (.func (.func f) us.toArray vs.toArray) := by
 intro a ha w
 have h1 := h1.eval ha
 have h2 := h.eval ha
 unfold execOp
 simp [ho, Instr.makeFunc, h1, h2]
theorem run_callF {f : FuncId} {g : Operand} {xs : List Operand} {tys : Array TypeId} {fb vs lb : List Value} (ho : o.op = .call ⟨.value g, xs.toArray, tys⟩) (hg : fr.ev g = some (.func (.func f) fb.toArray lb.toArray)) (he : entersB P f = true) (ha : ArgsOk fr xs vs) {a : Act} (hf : FrOk fr a) (w : World) :
  (execOp a.eval o).run P w = .ok (.enter f (fb ++ (vs ++ lb)).toArray) w := by
 unfold execOp
 have h1 := ha.eval hf
 have h2 := hf.ev hg
 simp [ho, resolve, Deferred.ofValue, invoke, h1, h2, run_enters he]
theorem S_callF (d : Option Tmp) (owns views : List (Nat × Row)) (ks : List Nat) {f : FuncId} {g : Operand} {xs : List Operand} {tys : Array TypeId} {fb vs lb : List Value} {K : Fr → Hp → Prop} {post : Value → List Row → Prop} (ho : o.op = .call ⟨.value g, xs.toArray, tys⟩) (hg : fr.ev g = some (.func (.func f) fb.toArray lb.toArray)) (he : entersB P f = true) (ha : ArgsOk fr xs vs)
  (hO : OwnsOk H owns) (hd : (owns.map (·.1)).Nodup) (hV : ViewsOk H owns views) (hk : ks.Nodup)
  (hcon : Con P f (fb ++ (vs ++ lb)) (owns.map (·.2) ++ views.map (·.2)) post) (hl : ∀ v rows', post v rows' → ks.length = rows'.length)
  (h : ∀ v rows', post v rows' → K (fr.put E.n d v) ((H.dels (owns.map (·.1))).sets ks rows')) (hd' : o.dst = d := by rfl) : SStep P E true fr H o K := by
 subst hd'
 intro a w R
 unfold Oper.wp
 rw [run_callF ho hg he ha R.fr w]
 have hw := R.chg
 have hH := R.heap
 refine (hcon w (hH.lift hw owns views hO.mem hd hV.mem)).mono fun e w' ⟨v, rows', h1, h2, h3, h4, h5⟩ => ?_
 have hvo : ∀ p ∈ views, p.2.own = false := fun p hp => by
  rcases hV.mem p hp with h1 | ⟨_, r, _, h3, _⟩
  · exact h1.2
  · exact h3
 obtain ⟨h6, h7⟩ := hH.back hw owns views hO.mem hvo h3 h4 h5 ks (hl v rows' h2) hk
 subst h1
 have R' := R.put o.dst v
 exact ⟨fun h => (by cases h), _, _, h v rows' h2, R'.df, R'.size, R'.fr, h7, h6⟩
end
/-- A loop whose second round leaves it. -/
theorem At.once {P : Program} {E : Env} {fr : Fr} {H : Hp} {Q : Exit → Act → World → Prop} {c : Code} (h : ∀ K0 : Act → World → Prop, (∀ fr' H', (∀ K : Act → World → Prop, At E fr' H' (c.wp P (Exit.then K Q))) → At E fr' H' K0) → At E fr H (c.wp P (Exit.then K0 Q))) : At E fr H ((Code.loop c).wp P Q) :=
 At.loopx (I := fun m fr' H' => (m = 1 ∧ fr' = fr ∧ H' = H) ∨ (m = 0 ∧ ∀ K : Act → World → Prop, At E fr' H' (c.wp P (Exit.then K Q)))) (fun K hK => hK 1 _ _ (.inl ⟨rfl, rfl, rfl⟩)) (by
  rintro m fr' H' (⟨rfl, rfl, rfl⟩ | ⟨rfl, h2⟩) K hK
  · exact h K fun fr2 H2 h2 => hK 0 _ _ (by omega) (.inr ⟨rfl, h2⟩)
  · exact h2 K)
/-- Four results, the first of which lies in a cell. -/
theorem ResV.cttt {P : Program} {fr : Fr} {H : Hp} {fn : Func} {t1 t2 t3 t4 : Tmp} {ty : TypeId} {v1 v2 v3 v4 : Value} (hr : fn.results = #[.cell t1 ty, .tmp t2, .tmp t3, .tmp t4]) (h1 : ResOne P fr H (.cell t1 ty) v1) (h2 : ResOne P fr H (.tmp t2) v2) (h3 : ResOne P fr H (.tmp t3) v3) (h4 : ResOne P fr H (.tmp t4) v4) : ResV P fr H fn (.tuple #[v1, v2, v3, v4]) := by
 intro E a w R
 have f := R.fr
 simp only [ResOne] at h1 h2 h3 h4
 obtain ⟨p, hp, h1⟩ := h1
 simp [results, hr, f _ _ h2, f _ _ h3, f _ _ h4, f _ _ hp, asAddr, h1 _ _ _ R]
end SE
end Go


/- Families of slices of bytes that begin behind so many of their block's. -/
namespace Go
namespace SE
open Go.RowKit
set_option linter.unusedVariables false
set_option linter.unusedSimpArgs false
/-- A slice l at q of a block's bytes w. -/
structure BG where
 A : Option Addr
 b : Nat
 c : Nat
 l : List (BitVec 8)
 q : Nat
 w : List (BitVec 8)
instance : Inhabited BG := ⟨⟨none, 0, 0, [], 0, []⟩⟩
def BG.ok (e : BG) : Prop := (0 < e.c → e.A = some ⟨e.b, e.q, none⟩) ∧ e.l.length ≤ e.c ∧ (e.w.drop e.q).take e.l.length = e.l ∧ e.q + e.l.length ≤ e.w.length
abbrev BG.v (e : BG) : Value := .slice e.A e.l.length e.c
abbrev BG.row (ty : TypeId) (e : BG) : Row := ⟨true, e.b, 0, ty, e.w.map u8V, e.c + e.q - e.w.length⟩
section
variable {E : Env} {fr : Fr} {T : Act → World → Prop} {b k : Nat} {ty : TypeId} {es : List BG} {m : List (Nat × Row)} {fs : List Fam}
end
end SE
end Go


/- Functions that take a family's rows, to be read. -/
namespace Go
namespace SE
open Go.RowKit
set_option linter.unusedVariables false
set_option linter.unusedSimpArgs false
section
variable {P : Program}
end
end SE
end Go


/- Families beside rows of one's own; elements read where they lie. -/
namespace Go
namespace SE
open Go.RowKit
set_option linter.unusedVariables false
set_option linter.unusedSimpArgs false
/-- A row of no cells. -/
theorem At.row0 {E : Env} {fr : Fr} {H : Hp} {T : Act → World → Prop} (k : Nat) {r : Row} (ho : r.own = false) (hc : r.cells = []) (h : At E fr (H.set k r) T) : At E fr H T := fun a w R => by
 refine h a w ⟨R.df, R.size, R.fr, R.chg, ?_, ?_⟩
 ·
  intro i x hx
  rcases Hp.set_some hx with ⟨rfl, rfl⟩ | ⟨_, hx⟩
  ·
   show (match x.own with | true => _ | false => _)
   rw [ho]
   exact fun h => absurd hc h
  · exact R.heap.row i x hx
 ·
  intro i i' x x' hx hx' h1 h2 hne g1 g2
  rcases Hp.set_some hx with ⟨rfl, rfl⟩ | ⟨_, hx⟩
  · rw [ho] at h1; cases h1
  rcases Hp.set_some hx' with ⟨rfl, rfl⟩ | ⟨_, hx'⟩
  · rw [ho] at h2; cases h2
  exact R.heap.apart _ _ _ _ hx hx' h1 h2 hne g1 g2
section
variable {P : Program}
end
section
variable {P : Program} {E : Env} {fr : Fr} {H : Hp} {o : Oper} {x : Operand}
end
theorem FamOk.sets {f : Fam} : ∀ {ks : List Nat} {rs : List Row} {H : Hp}, (ks.all fun k => Nat.blt k f.b) = true → FamOk H f → FamOk (H.sets ks rs) f
 | [], _, _, _, h => by
  unfold Hp.sets
  exact h
 | _ :: _, [], _, _, h => by
  unfold Hp.sets
  exact h
 | k :: ks, r :: rs, H, hl, h => by
  rw [List.all_cons, Bool.and_eq_true] at hl
  show FamOk ((H.set k r).sets ks rs) f
  exact FamOk.sets hl.2 (FamOk.set hl.1 h)
theorem FamOk.dels {f : Fam} : ∀ {ks : List Nat} {H : Hp}, (ks.all fun k => Nat.blt k f.b) = true → FamOk H f → FamOk (H.dels ks) f
 | [], _, _, h => h
 | k :: ks, H, hl, h => by
  rw [List.all_cons, Bool.and_eq_true] at hl
  show FamOk ((H.del k).dels ks) f
  exact FamOk.dels hl.2 (FamOk.del hl.1 h)
end SE
end Go

