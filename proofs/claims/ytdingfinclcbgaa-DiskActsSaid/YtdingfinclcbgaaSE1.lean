/-
  A walk whose memory is named: rows of cells known by number, the frame a function of the slots. Generic (no program).
-/
import Derived.WalkKit
import Derived.Below
import Derived.LoopN
import Derived.OwnWalk
namespace Go
namespace SE
open Go.RowKit
set_option linter.unusedVariables false
set_option linter.unusedSimpArgs false

def tsz (P : Program) (t : TypeId) : Option Nat := (P.info? t).map (·.size)
def tby (P : Program) (t : TypeId) : Option Nat := (P.info? t).map (·.bytes)
def tze (P : Program) (t : TypeId) : Option Value := (P.info? t).bind (·.zero)

/-- A row of cells: the call's own (a whole block, 'rest' cells more behind the known ones), or one that is only read. -/
structure Row where
  own : Bool
  b : Nat
  s : Nat
  ty : TypeId
  cells : List Value
  rest : Nat

abbrev Fr := Nat → Option Value
abbrev Hp := Nat → Option Row

structure Env where
  W0 : World
  S : List Nat
  n : Nat
  df : List Deferred

/-- Nothing but the blocks S has turned, of those that were there. -/
structure Chg (S : List Nat) (w w' : World) : Prop where
  os : w'.os = w.os
  tape : w'.tape = w.tape
  output : w'.output = w.output
  size : w.heap.size ≤ w'.heap.size
  block : ∀ k, k < w.heap.size → k ∉ S → w'.heap[k]? = w.heap[k]?

theorem Chg.refl (S : List Nat) (w : World) : Chg S w w := ⟨rfl, rfl, rfl, Nat.le_refl _, fun _ _ _ => rfl⟩
theorem Chg.trans {S : List Nat} {a b c : World} (h : Chg S a b) (k : Chg S b c) : Chg S a c :=
  ⟨k.os.trans h.os, k.tape.trans h.tape, k.output.trans h.output, Nat.le_trans h.size k.size, fun i hi hn => (k.block i (Nat.lt_of_lt_of_le hi h.size) hn).trans (h.block i hi hn)⟩
theorem Chg.of_below {S : List Nat} {w w' : World} (h : Below w.heap.size w w') : Chg S w w' := ⟨h.os, h.tape, h.output, h.size, fun k hk _ => h.block k hk⟩
theorem Chg.below {w w' : World} (h : Chg [] w w') : Below w.heap.size w w' := ⟨h.os, h.tape, h.output, h.size, fun k hk => h.block k hk (by simp)⟩
theorem Chg.mono {S T : List Nat} {w w' : World} (h : Chg S w w') (hST : ∀ k ∈ S, k ∈ T) : Chg T w w' :=
  ⟨h.os, h.tape, h.output, h.size, fun k hk hn => h.block k hk (fun hm => hn (hST k hm))⟩
/-- What was new for the caller's world may turn as well. -/
theorem Chg.trans_new {S T : List Nat} {a b c : World} (h : Chg S a b) (k : Chg T b c) (hT : ∀ x ∈ T, x ∈ S ∨ a.heap.size ≤ x) : Chg S a c :=
  ⟨k.os.trans h.os, k.tape.trans h.tape, k.output.trans h.output, Nat.le_trans h.size k.size, fun i hi hn => (k.block i (Nat.lt_of_lt_of_le hi h.size) (fun hm => by
    rcases hT i hm with h1 | h1
    · exact hn h1
    · omega)).trans (h.block i hi hn)⟩

def OwnR (E : Env) (r : Row) (w : World) : Prop :=
  r.s = 0 ∧ (r.cells.length + r.rest ≠ 0 → r.b < w.heap.size ∧ (r.b ∈ E.S ∨ E.W0.heap.size ≤ r.b) ∧ ∃ (tl : List Value) (fz : Nat × Nat), tl.length = r.rest ∧ (fz = (0, 0) ∨ r.cells.length + r.rest ≤ fz.1) ∧ w.heap[r.b]? = some (.cells (r.cells ++ tl).toArray r.ty fz))
def RoR (E : Env) (r : Row) : Prop :=
  r.cells ≠ [] → r.b < E.W0.heap.size ∧ r.b ∉ E.S ∧ ∀ j v, r.cells[j]? = some v → E.W0.cell? ⟨r.b, r.s + j, none⟩ = some v
def RowR (E : Env) (r : Row) (w : World) : Prop := match r.own with | true => OwnR E r w | false => RoR E r

structure HR (E : Env) (H : Hp) (w : World) : Prop where
  row : ∀ k r, H k = some r → RowR E r w
  apart : ∀ k k' r r', H k = some r → H k' = some r' → r.own = true → r'.own = true → k ≠ k' → r.cells.length + r.rest ≠ 0 → r'.cells.length + r'.rest ≠ 0 → r.b ≠ r'.b

structure Rep (E : Env) (fr : Fr) (H : Hp) (a : Act) (w : World) : Prop where
  df : a.defers = E.df
  size : a.tmps.size = E.n
  fr : ∀ i v, fr i = some v → a.tmps[i]? = some v
  chg : Chg E.S E.W0 w
  heap : HR E H w

def At (E : Env) (fr : Fr) (H : Hp) (T : Act → World → Prop) : Prop := ∀ a w, Rep E fr H a w → T a w

/-- The frame with one slot more. -/
def Fr.put (n : Nat) (fr : Fr) : Option Tmp → Value → Fr
  | none, _ => fr
  | some d, v => fun i => match Nat.beq i d with
    | true => (match Nat.blt d n with | true => some v | false => fr i)
    | false => fr i
def Fr.ev (fr : Fr) : Operand → Option Value
  | .tmp t => fr t
  | .const v => some v
  | .global g => some (.pointer (some ⟨g, 0, none⟩))
  | .func f => some (.func (.func f) #[] #[])
def Hp.set (H : Hp) (k : Nat) (r : Row) : Hp := fun i => match Nat.beq i k with
  | true => some r
  | false => H i
def Hp.del (H : Hp) (k : Nat) : Hp := fun i => match Nat.beq i k with
  | true => none
  | false => H i
def frOf : List (Nat × Value) → Fr
  | [] => fun _ => none
  | (k, v) :: l => fun i => match Nat.beq i k with
    | true => some v
    | false => frOf l i
def hOf : List (Nat × Row) → Hp
  | [] => fun _ => none
  | (k, v) :: l => fun i => match Nat.beq i k with
    | true => some v
    | false => hOf l i

theorem bne {i k : Nat} (h : Nat.beq i k = false) : i ≠ k := Nat.ne_of_beq_eq_false h
theorem bnf {i k : Nat} (h : i ≠ k) : Nat.beq i k = false := by
  cases hb : Nat.beq i k with
  | false => rfl
  | true => exact absurd (Nat.eq_of_beq_eq_true hb) h
theorem bnl {i k : Nat} (h : Nat.blt i k = false) : k ≤ i := by
  have : ¬ i < k := fun hl => by
    have h2 : Nat.blt i k = true := Nat.ble_eq_true_of_le hl
    rw [h] at h2; cases h2
  omega
theorem Hp.set_same (H : Hp) (k : Nat) (r : Row) : H.set k r k = some r := by simp [Hp.set]
theorem Hp.set_ne (H : Hp) {k i : Nat} (r : Row) (h : i ≠ k) : H.set k r i = H i := by
  unfold Hp.set
  rw [bnf h]
theorem Hp.del_some {H : Hp} {k i : Nat} {r : Row} (h : H.del k i = some r) : i ≠ k ∧ H i = some r := by
  unfold Hp.del at h
  split at h
  · cases h
  · rename_i hb
    exact ⟨bne hb, h⟩
theorem Hp.set_some {H : Hp} {k i : Nat} {r x : Row} (h : H.set k r i = some x) : (i = k ∧ x = r) ∨ (i ≠ k ∧ H i = some x) := by
  unfold Hp.set at h
  split at h
  · rename_i hb
    exact Or.inl ⟨by simpa using hb, (Option.some.inj h).symm⟩
  · rename_i hb
    exact Or.inr ⟨bne hb, h⟩

section
variable {E : Env} {fr : Fr} {H : Hp} {a : Act} {w : World}

theorem Rep.ev (h : Rep E fr H a w) {x : Operand} {v : Value} (hx : fr.ev x = some v) : a.eval x = v := by
  cases x with
  | tmp t =>
    have := h.fr t v hx
    simp [Act.eval, this]
  | const c => exact Option.some.inj hx
  | global g => exact Option.some.inj hx
  | func f => exact Option.some.inj hx

theorem Rep.put (h : Rep E fr H a w) (d : Option Tmp) (v : Value) : Rep E (fr.put E.n d v) H (a.put d v) w := by
  cases d with
  | none => exact h
  | some d =>
    refine ⟨h.df, by simpa [Act.put] using h.size, fun i u hu => ?_, h.chg, h.heap⟩
    have hs := h.size
    unfold Fr.put at hu
    dsimp only at hu
    split at hu
    · rename_i hi
      have hi : i = d := by simpa using hi
      subst hi
      split at hu
      · rename_i hd
        have hd : i < E.n := by simpa using hd
        have hu := Option.some.inj hu
        subst hu
        simp [Act.put, hs, hd]
      · rename_i hd
        have hd : E.n ≤ i := bnl hd
        have h1 := h.fr i u hu
        have h2 := (Array.getElem?_eq_some_iff.1 h1).1
        omega
    · rename_i hi
      have hi : i ≠ d := bne hi
      have h1 := h.fr i u hu
      simp [Act.put, Array.getElem?_setIfInBounds_ne (Ne.symm hi), h1]

/-- Less is known. -/
theorem At.weak {T : Act → World → Prop} {fr' : Fr} {H' : Hp} (hf : ∀ i v, fr' i = some v → fr i = some v) (hH : ∀ k r, H' k = some r → H k = some r) (h : At E fr' H' T) : At E fr H T :=
  fun a w r => h a w ⟨r.df, r.size, fun i v hv => r.fr i v (hf i v hv), r.chg, ⟨fun k x hx => r.heap.row k x (hH k x hx), fun k k' x x' hx hx' => r.heap.apart k k' x x' (hH _ _ hx) (hH _ _ hx')⟩⟩
theorem At.mono {T T' : Act → World → Prop} (h : At E fr H T) (hT : ∀ a w, T a w → T' a w) : At E fr H T' := fun a w r => hT a w (h a w r)

theorem frOf_le {fr : Fr} : ∀ {l : List (Nat × Value)}, (∀ p ∈ l, fr p.1 = some p.2) → ∀ i v, frOf l i = some v → fr i = some v
  | [], _, i, v, h => by simp [frOf] at h
  | (k, u) :: l, hl, i, v, h => by
    unfold frOf at h
    split at h
    · rename_i hb
      have hb : i = k := by simpa using hb
      subst hb
      rw [← h]
      exact hl (i, u) List.mem_cons_self
    · exact frOf_le (fun p hp => hl p (List.mem_cons_of_mem _ hp)) i v h
theorem hOf_le {H : Hp} : ∀ {l : List (Nat × Row)}, (∀ p ∈ l, H p.1 = some p.2) → ∀ i v, hOf l i = some v → H i = some v
  | [], _, i, v, h => by simp [hOf] at h
  | (k, u) :: l, hl, i, v, h => by
    unfold hOf at h
    split at h
    · rename_i hb
      have hb : i = k := by simpa using hb
      subst hb
      rw [← h]
      exact hl (i, u) List.mem_cons_self
    · exact hOf_le (fun p hp => hl p (List.mem_cons_of_mem _ hp)) i v h
/-- All of a list, one behind the other. -/
def AllL {α : Type} (p : α → Prop) : List α → Prop
  | [] => True
  | [x] => p x
  | x :: y :: l => p x ∧ AllL p (y :: l)
theorem AllL.mem {α : Type} {p : α → Prop} : ∀ {l : List α}, AllL p l → ∀ x ∈ l, p x
  | [], _, x, hx => by cases hx
  | [y], h, x, hx => by rw [List.mem_singleton.1 hx]; exact h
  | y :: z :: l, h, x, hx => by
    rcases List.mem_cons.1 hx with rfl | hx
    · exact h.1
    · exact AllL.mem h.2 x hx
theorem At.to {T : Act → World → Prop} (l : List (Nat × Value)) (m : List (Nat × Row)) (hf : AllL (fun p => fr p.1 = some p.2) l) (hH : AllL (fun p => H p.1 = some p.2) m) (h : At E (frOf l) (hOf m) T) : At E fr H T :=
  h.weak (frOf_le hf.mem) (hOf_le hH.mem)

/-! ### Worlds that grow -/
theorem RowR.chg {S : List Nat} {r : Row} {w w' : World} (h : RowR E r w) (hc : Chg S w w') (hb : r.own = true → r.cells.length + r.rest ≠ 0 → r.b ∉ S) : RowR E r w' := by
  unfold RowR at *
  split at h
  · rename_i ho
    obtain ⟨h1, h2⟩ := h
    refine ⟨h1, fun hz => ?_⟩
    obtain ⟨h2, h3, tl, fz, h4, hf, h5⟩ := h2 hz
    exact ⟨Nat.lt_of_lt_of_le h2 hc.size, h3, tl, fz, h4, hf, (hc.block _ h2 (hb ho hz)).trans h5⟩
  · exact h
theorem HR.chg {S : List Nat} {w w' : World} (h : HR E H w) (hc : Chg S w w') (hb : ∀ k r, H k = some r → r.own = true → r.cells.length + r.rest ≠ 0 → r.b ∉ S) : HR E H w' :=
  ⟨fun k r hr => (h.row k r hr).chg hc (hb k r hr), h.apart⟩
theorem HR.below {w w' : World} (h : HR E H w) (hc : Below w.heap.size w w') : HR E H w' := h.chg (S := []) (Chg.of_below hc) (fun _ _ _ _ _ => by simp)
theorem Rep.below {w' : World} (h : Rep E fr H a w) (hc : Below w.heap.size w w') : Rep E fr H a w' :=
  ⟨h.df, h.size, h.fr, h.chg.trans (Chg.of_below hc), h.heap.below hc⟩
theorem Rep.drew (h : Rep E fr H a w) : Rep E fr H a w.drew := h.below (Below.refl _ _).drew
theorem HR.own_ {k : Nat} {r : Row} (h : HR E H w) (hk : H k = some r) (ho : r.own = true) (hz : r.cells.length + r.rest ≠ 0) :
    r.s = 0 ∧ r.b < w.heap.size ∧ (r.b ∈ E.S ∨ E.W0.heap.size ≤ r.b) ∧ ∃ (tl : List Value) (fz : Nat × Nat), tl.length = r.rest ∧ (fz = (0, 0) ∨ r.cells.length + r.rest ≤ fz.1) ∧ w.heap[r.b]? = some (.cells (r.cells ++ tl).toArray r.ty fz) := by
  have := h.row k r hk
  unfold RowR at this
  rw [ho] at this
  exact ⟨this.1, this.2 hz⟩
/-- A new block. -/
theorem HR.new {w' : World} (h : HR E H w) (hw : Chg E.S E.W0 w) (hb : Below w.heap.size w w') (k : Nat) (cs tl : List Value) (t : TypeId) (fz : Nat × Nat) (hf : fz = (0, 0) ∨ cs.length + tl.length ≤ fz.1)
    (b : Nat) (hlo : w.heap.size ≤ b) (hhi : b < w'.heap.size) (hcell : w'.heap[b]? = some (.cells (cs ++ tl).toArray t fz)) : HR E (H.set k ⟨true, b, 0, t, cs, tl.length⟩) w' := by
  refine ⟨fun i r hr => ?_, fun i j r r' hr hr' ho ho' hij hz hz' => ?_⟩
  · rcases Hp.set_some hr with ⟨rfl, rfl⟩ | ⟨_, hr⟩
    · exact ⟨rfl, fun _ => ⟨hhi, Or.inr (Nat.le_trans hw.size hlo), tl, fz, rfl, hf, hcell⟩⟩
    · exact (h.below hb).row i r hr
  · rcases Hp.set_some hr with ⟨e1, e2⟩ | ⟨h1, hr1⟩ <;> rcases Hp.set_some hr' with ⟨e3, e4⟩ | ⟨h2, hr2⟩
    · exact absurd (e1.trans e3.symm) hij
    · have := (h.own_ hr2 ho' hz').2.1; subst e2; dsimp only; omega
    · have := (h.own_ hr1 ho hz).2.1; subst e4; dsimp only; omega
    · exact h.apart i j r r' hr1 hr2 ho ho' hij hz hz'
theorem HR.alloc (h : HR E H w) (hw : Chg E.S E.W0 w) (k : Nat) (cs : Array Value) (t : TypeId) : HR E (H.set k ⟨true, w.heap.size, 0, t, cs.toList, 0⟩) (w.alloc (.cells cs t)) :=
  h.new hw ((Below.refl _ _).alloc (Nat.le_refl _) _) k cs.toList [] t (0, 0) (Or.inl rfl) _ (Nat.le_refl _) (by simp) (by simpa using heap_alloc_new w (.cells cs t))
/-- A row that may be written has other cells: the known ones are more or fewer, the block is as large as it was. -/
theorem HR.write {w' : World} {k : Nat} {r : Row} {cs : List Value} {rest : Nat} (h : HR E H w) (hk : H k = some r) (ho : r.own = true) (hz : r.cells.length + r.rest ≠ 0) (hl : cs.length + rest = r.cells.length + r.rest)
    (hc : Chg [r.b] w w') (hh : ∀ (tl : List Value) (fz : Nat × Nat), tl.length = r.rest → w.heap[r.b]? = some (.cells (r.cells ++ tl).toArray r.ty fz) → ∃ tl' : List Value, tl'.length = rest ∧ w'.heap[r.b]? = some (.cells (cs ++ tl').toArray r.ty fz)) :
    HR E (H.set k { r with cells := cs, rest := rest }) w' := by
  obtain ⟨h1, h2, h3, tl, fz, h4, hf, h5⟩ := h.own_ hk ho hz
  obtain ⟨tl', h6, h7⟩ := hh tl fz h4 h5
  refine ⟨fun i x hx => ?_, fun i j x x' hx hx' hxo hxo' hij hz1 hz2 => ?_⟩
  · rcases Hp.set_some hx with ⟨rfl, rfl⟩ | ⟨hne, hx⟩
    · unfold RowR
      dsimp only
      rw [ho]
      exact ⟨h1, fun _ => ⟨Nat.lt_of_lt_of_le h2 hc.size, h3, tl', fz, h6, by dsimp only; rw [hl]; exact hf, h7⟩⟩
    · refine (h.row i x hx).chg hc fun hxo hxz hm => ?_
      exact h.apart i k x r hx hk hxo ho hne hxz hz (by simpa using hm)
  · rcases Hp.set_some hx with ⟨e1, e2⟩ | ⟨h1, hx1⟩ <;> rcases Hp.set_some hx' with ⟨e3, e4⟩ | ⟨h2, hx2⟩
    · exact absurd (e1.trans e3.symm) hij
    · subst e1 e2; have := h.apart i j r x' hk hx2 ho hxo' hij hz hz2; exact this
    · subst e3 e4; have := h.apart i j x r hx1 hk hxo ho hij hz1 hz; exact this
    · exact h.apart i j x x' hx1 hx2 hxo hxo' hij hz1 hz2
theorem HR.del {k : Nat} (h : HR E H w) : HR E (H.del k) w :=
  ⟨fun i r hr => h.row i r (Hp.del_some hr).2, fun i j r r' hr hr' => h.apart i j r r' (Hp.del_some hr).2 (Hp.del_some hr').2⟩

/-- A cell of a row. -/
theorem HR.cell {k : Nat} {r : Row} {j : Nat} {v : Value} (h : HR E H w) (hc : Chg E.S E.W0 w) (hk : H k = some r) (hj : r.cells[j]? = some v) : w.cell? ⟨r.b, r.s + j, none⟩ = some v := by
  have hr := h.row k r hk
  unfold RowR at hr
  split at hr
  · have hlt := (List.getElem?_eq_some_iff.1 hj).1
    obtain ⟨h1, h2⟩ := hr
    obtain ⟨_, _, tl, fz, _, _, h5⟩ := h2 (by omega)
    rw [cell_of_row w r.b _ _ _ _ h5, h1]
    simp [List.getElem?_append_left hlt, hj]
  · have hne : r.cells ≠ [] := by rintro he; rw [he] at hj; simp at hj
    obtain ⟨h1, h2, h3⟩ := hr hne
    rw [World.cell?_of_block (w := E.W0) (hc.block _ h1 h2)]
    exact h3 j v hj
end
end SE
end Go
