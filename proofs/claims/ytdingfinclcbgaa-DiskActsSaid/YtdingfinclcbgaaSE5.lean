/- More of the walk: branches of guards, loops, blocks, pointers held against nil, cells of one kind; copies; strings. -/
import Derived.Test.YtdingfinclcbgaaSE4
namespace Go
namespace SE
open Go.RowKit
set_option linter.unusedVariables false
set_option linter.unusedSimpArgs false
section
variable {P : Program} {E : Env} {fr : Fr} {H : Hp} {o : Oper} {t ty : TypeId} {x y : Operand} {v : Value} {Q : Exit → Act → World → Prop}
theorem At.gsplit {T : Act → World → Prop} {t : Tmp} {want bb : Bool} (hb : fr t = some (.bool bb)) (h1 : bb = want → At E fr H T) (h2 : (bb = !want) → At E fr H T) : At E fr H T := by
  cases bb <;> cases want
  · exact h1 rfl
  · exact h2 rfl
  · exact h2 rfl
  · exact h1 rfl
theorem At.wsplit {T : Act → World → Prop} {t : Tmp} {want bb : Bool} (hb : fr t = some (.bool bb)) (h1 : bb = want → At E fr H T) (h2 : (bb = !want) → At E fr H T) : At E fr H T := At.gsplit hb h1 h2
theorem wanted_un {ops : Array Oper} {a : Act} {w : World} {j : Nat} {want : Bool} (hg : o.guard = some (j, want)) {t : Tmp} (hj : (ops[j]?).bind (·.dst) = some t) (hb : fr t = some undef) (R : Rep E fr H a w) :
    Region.wanted o (yielded ops a.tmps) = false := by
  have h1 := R.fr t _ hb
  simp only [Region.wanted, hg, yielded, hj, Option.bind_some, h1]
  rfl
/-- A guarded operation whose guard itself did not come. -/
theorem At.gu {ops : Array Oper} {rest : List Oper} (d : Option Tmp) {j : Nat} {want : Bool} {t : Tmp} (hb : fr t = some undef) (hg : o.guard = some (j, want)) (hj : (ops[j]?).bind (·.dst) = some t)
    (h : At E (fr.put E.n d undef) H (wpList P ops Q rest)) (hd : o.dst = d := by rfl) : At E fr H (wpList P ops Q (o :: rest)) := by
  intro a w R
  subst hd
  have h1 := wanted_un (E := E) (H := H) hg hj hb R
  have h2 := h _ w (R.put o.dst undef)
  unfold wpList
  rw [h1]
  simpa using h2
theorem At.wgu {l : List Oper} {n : Nat} {segs : List RG.Seg} {is : List Nat} {i : Nat} {b : Bool} (d : Option Tmp) {j : Nat} {want : Bool} {t : Tmp} (hb : fr t = some undef) (hg : (l.getD i default).guard = some (j, want)) (hj : (l.toArray[j]?).bind (·.dst) = some t)
    (h' : At E (fr.put E.n d undef) H (WX P l Q n (.q b is :: segs))) (hd : (l.getD i default).dst = d := by rfl) : At E fr H (WX P l Q n (.q b (i :: is) :: segs)) := by
  intro a w R
  subst hd
  refine W_cons (fun w' hw' Y hY => ?_) (h' _ w (R.put _ undef))
  show wpQuiet P l.toArray (RG.ClX w') Y [l.getD i default] a
  unfold wpQuiet
  rw [if_neg (by rw [wanted_un (E := E) (H := H) hg hj hb R]; simp)]
  exact hY
/-- A guarded operation that acts, in a region that draws. -/
theorem At.wey {l : List Oper} {n : Nat} {segs : List RG.Seg} {any : Bool} {i j : Nat} {want bb : Bool} {t : Tmp} (hb : fr t = some (.bool bb)) (hw : bb = want) (hg : (l.getD i default).guard = some (j, want)) (hj : (l.toArray[j]?).bind (·.dst) = some t)
    (h : SStep P E any fr H (l.getD i default) (fun fr' H' => At E fr' H' (WX P l Q n segs))) : At E fr H (WX P l Q n (.e any i :: segs)) := by
  intro a w R
  refine RG.W_f fun w' hw' K hKo hK => ?_
  show wpList P l.toArray K [l.getD i default] a w'
  unfold wpList
  rw [if_pos (by rw [wanted_of (E := E) (H := H) hg hj hb R, hw]; simp)]
  exact Or.inl (RG.wp_monoQ (fun a' w'' ⟨h1, fr', H', h2, h3⟩ => hK _ _ ⟨h1, h2 _ _ h3⟩) (fun _ _ _ h => h.elim) (fun ⟨_, _, h⟩ => h.elim) (h a w' (R.below hw')))
theorem At.wen {l : List Oper} {n : Nat} {segs : List RG.Seg} {any : Bool} {i j : Nat} {want bb : Bool} {t : Tmp} (d : Option Tmp) (hb : fr t = some (.bool bb)) (hw : bb = !want) (hg : (l.getD i default).guard = some (j, want)) (hj : (l.toArray[j]?).bind (·.dst) = some t)
    (h : At E (fr.put E.n d undef) H (WX P l Q n segs)) (hd : (l.getD i default).dst = d := by rfl) : At E fr H (WX P l Q n (.e any i :: segs)) := by
  intro a w R
  subst hd
  refine RG.W_f fun w' hw' K hKo hK => ?_
  show wpList P l.toArray K [l.getD i default] a w'
  unfold wpList
  rw [if_neg (by rw [wanted_of (E := E) (H := H) hg hj hb R, hw]; cases want <;> simp)]
  exact hK _ _ ⟨fun _ => Below.refl _ _, h _ _ ((R.below hw').put _ _)⟩
theorem At.loopx {c : Code} {I : Nat → Fr → Hp → Prop} (h0 : ∀ K : Act → World → Prop, (∀ m fr H, I m fr H → At E fr H K) → At E fr H K)
    (h : ∀ m fr H, I m fr H → ∀ K : Act → World → Prop, (∀ m' fr' H', m' < m → I m' fr' H' → At E fr' H' K) → At E fr H (c.wp P (Exit.then K Q))) : At E fr H ((Code.loop c).wp P Q) :=
  h0 _ fun m fr H hI => At.loop I m hI h
theorem At.thn_e {K : Act → World → Prop} {i : Nat} (h : At E fr H (Q (.exit i))) : At E fr H (Exit.then K Q (.exit i)) := h
theorem At.thn_r {K : Act → World → Prop} (h : At E fr H (Q .ret)) : At E fr H (Exit.then K Q .ret) := h
theorem At.inb_n {id : Nat} (h : At E fr H (Q .normal)) : At E fr H (Exit.inBlock id Q .normal) := h
theorem At.inb_r {id : Nat} (h : At E fr H (Q .ret)) : At E fr H (Exit.inBlock id Q .ret) := h
theorem At.inb_hit {id : Nat} (h : At E fr H (Q .normal)) : At E fr H (Exit.inBlock id Q (.exit id)) := fun a w r => by
  simp only [Exit.inBlock, if_true]; exact h a w r
theorem At.inb_miss {id i : Nat} (hi : i ≠ id) (h : At E fr H (Q (.exit i))) : At E fr H (Exit.inBlock id Q (.exit i)) := fun a w r => by
  simp only [Exit.inBlock, if_neg hi]; exact h a w r
theorem P_eql_ptr {tp e : TypeId} {p : Option Addr} (ho : o.op = .binOp .eql tp x y ty) (hx : fr.ev x = some (.pointer p)) (hy : fr.ev y = some (.pointer none)) (hp : P.underlying tp = some (.pointer e)) : PStep P fr o (.bool p.isNone) := by
  intro a ha w
  have h : (Op.equal tp (.pointer p) (.pointer none)).run P w = .ok p.isNone w := by
    have h : ∀ d, (Op.equalIn (d + 1) tp (.pointer p) (.pointer none)).run P w = .ok p.isNone w := fun d => by cases p <;> simp [Op.equalIn, run_underlying hp]
    exact h 9999
  unfold execOp
  cases p <;> simp at h <;> simp [ho, ha.ev hx, ha.ev hy, eqGuard, binOp, h]
theorem P_neq_ptr {tp e : TypeId} {p : Option Addr} (ho : o.op = .binOp .neq tp x y ty) (hx : fr.ev x = some (.pointer p)) (hy : fr.ev y = some (.pointer none)) (hp : P.underlying tp = some (.pointer e)) : PStep P fr o (.bool p.isSome) := by
  intro a ha w
  have h : (Op.equal tp (.pointer p) (.pointer none)).run P w = .ok p.isNone w := by
    have h : ∀ d, (Op.equalIn (d + 1) tp (.pointer p) (.pointer none)).run P w = .ok p.isNone w := fun d => by cases p <;> simp [Op.equalIn, run_underlying hp]
    exact h 9999
  unfold execOp
  cases p <;> simp at h <;> simp [ho, ha.ev hx, ha.ev hy, eqGuard, binOp, h]
theorem P_indexM {t e : TypeId} {len j n : Nat} {l : List (BitVec n)} {kk k : IntKind} {i : Int} {ix : Operand} {D : TypeDesc} (d : BitVec n) (ho : o.op = .index t x ix) (ht : P.underlying t = some (.array len e)) (hz : tsz P e = some 1) (hD : P.underlying e = some D) (hx : fr.ev x = some (.agg (l.map fun b => Value.int kk (b.toNat : Int)).toArray)) (hi : fr.ev ix = some (.int k i)) (hj : i = (j : Int)) (hlt : j < len) (hl : len ≤ l.length)
    (hd : aggD D = false := by rfl) : PStep P fr o (.int kk ((l.getD j d).toNat : Int)) :=
  P_index_arr ho ht hz hD (by rintro fs rfl; cases hd) (by rintro n e' rfl; cases hd) hx hi hj hlt (by
    have : j < l.length := by omega
    simp [this])
end
end SE
end Go
