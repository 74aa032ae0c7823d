/- More of the walk: branches of guards, loops, blocks, pointers held against nil, cells of one kind; copies; strings. -/
import Derived.Test.YtcjfkmhijfcciaaSE4
namespace Go
namespace SE
open Go.RowKit
set_option linter.unusedVariables false
set_option linter.unusedSimpArgs false
section
variable {P : Program} {E : Env} {fr : Fr} {H : Hp} {o : Oper} {t ty : TypeId} {x y : Operand} {v : Value} {Q : Exit → Act → World → Prop}
theorem At.gsplit {T : Act → World → Prop} {t : Tmp} {want bb : Bool} (hb : fr t = some (.bool bb)) (h1 : bb = want → At E fr H T) (h2 : (bb = !want) → At E fr H T) : At E fr H T := by
 cases bb <;> cases want
 · exact h1 rfl
 · exact h2 rfl
 · exact h2 rfl
 · exact h1 rfl
theorem wanted_un {ops : Array Oper} {a : Act} {w : World} {j : Nat} {want : Bool} (hg : o.guard = some (j, want)) {t : Tmp} (hj : (ops[j]?).bind (·.dst) = some t) (hb : fr t = some undef) (R : Rep E fr H a w) :
  Region.wanted o (yielded ops a.tmps) = false := by
 have h1 := R.fr t _ hb
 simp only [Region.wanted, hg, yielded, hj, Option.bind_some, h1]
 rfl
/-- A guarded operation whose guard itself did not come. -/
theorem At.gu {ops : Array Oper} {rest : List Oper} (d : Option Tmp) {j : Nat} {want : Bool} {t : Tmp} (hb : fr t = some undef) (hg : o.guard = some (j, want)) (hj : (ops[j]?).bind (·.dst) = some t)
  (h : At E (fr.put E.n d undef) H (wpList P ops Q rest)) (hd : o.dst = d := by rfl) : At E fr H (wpList P ops Q (o :: rest)) := by
 intro a w R
 subst hd
 have h1 := wanted_un (E := E) (H := H) hg hj hb R
 have h2 := h _ w (R.put o.dst undef)
 unfold wpList
 rw [h1]
 simpa using h2
theorem At.loopx {c : Code} {I : Nat → Fr → Hp → Prop} (h0 : ∀ K : Act → World → Prop, (∀ m fr H, I m fr H → At E fr H K) → At E fr H K)
  (h : ∀ m fr H, I m fr H → ∀ K : Act → World → Prop, (∀ m' fr' H', m' < m → I m' fr' H' → At E fr' H' K) → At E fr H (c.wp P (Exit.then K Q))) : At E fr H ((Code.loop c).wp P Q) :=
 h0 _ fun m fr H hI => At.loop I m hI h
theorem At.thn_e {K : Act → World → Prop} {i : Nat} (h : At E fr H (Q (.exit i))) : At E fr H (Exit.then K Q (.exit i)) := h
theorem At.thn_r {K : Act → World → Prop} (h : At E fr H (Q .ret)) : At E fr H (Exit.then K Q .ret) := h
theorem At.inb_n {id : Nat} (h : At E fr H (Q .normal)) : At E fr H (Exit.inBlock id Q .normal) := h
theorem At.inb_r {id : Nat} (h : At E fr H (Q .ret)) : At E fr H (Exit.inBlock id Q .ret) := h
theorem At.inb_hit {id : Nat} (h : At E fr H (Q .normal)) : At E fr H (Exit.inBlock id Q (.exit id)) := fun a w r => by
 simp only [Exit.inBlock, if_true]; exact h a w r
theorem P_indexM {t e : TypeId} {len j n : Nat} {l : List (BitVec n)} {kk k : IntKind} {i : Int} {ix : Operand} {D : TypeDesc} (d : BitVec n) (ho : o.op = .index t x ix) (ht : P.underlying t = some (.array len e)) (hz : tsz P e = some 1) (hD : P.underlying e = some D) (hx : fr.ev x = some (.agg (l.map fun b => Value.int kk (b.toNat : Int)).toArray)) (hi : fr.ev ix = some (.int k i)) (hj : i = (j : Int)) (hlt : j < len) (hl : len ≤ l.length)
  (hd : aggD D = false := by rfl) : PStep P fr o (.int kk ((l.getD j d).toNat : Int)) :=
 P_index_arr ho ht hz hD (by rintro fs rfl; cases hd) (by rintro n e' rfl; cases hd) hx hi hj hlt (by
  have : j < l.length := by omega
  simp [this])
end
end SE
end Go

