/- The set of told numbers (map[[2]int]bool) that GateRows keeps: asked and stored into. -/
import Derived.Test.YtjlifebdpgjaiaaF
import Derived.Maps.Own
import Derived.Maps.OwnOps
import Derived.Maps.Views
import Derived.WideKeyPair
namespace Go.Proofs.Ytjlifebdpgjaiaa
set_option linter.unusedSimpArgs false
set_option linter.unusedVariables false
open Go.ChangeShapes Go.WideShapes Go.ChangeAt Go.RowKit
open Go.Maps (Keyed IsMap)
open Go.WideElems Go.WideMaps

theorem arr44 : ArrKey Try.prog 44 3 2 := ⟨Try.underlying44, by kernel_rfl, by kernel_rfl, by kernel_rfl⟩
theorem keyed44 : Keyed Try.prog 44 := Keyed.of_law arr44.law
theorem types_ex : ∃ m, Try.prog.types.size = m + 1 := ⟨Try.prog.types.size - 1, by
  have : 0 < Try.prog.types.size := of_decide_eq_true (by kernel_rfl)
  omega⟩
theorem zero4 (w : World) : (zeroValue 4).run Try.prog w = .ok (.bool false) w := by kernel_rfl

abbrev keyV (e n : Int) : Value := .agg #[.int .i64 e, .int .i64 n]
def keyL (e n : Int) : Lit := .string (keyBytes [.int .i64 e, .int .i64 n])
theorem key_of {e n : Int} (he : (Lit.int .i64 e).wf = true) (hn : (Lit.int .i64 n).wf = true) : keyOf Try.prog 44 (keyV e n) = some (keyL e n) :=
  keyOf_pair arr44 Try.underlying3 types_ex he hn
theorem keyL_inj {e n e' n' : Int} (he : (Lit.int .i64 e).wf = true) (hn : (Lit.int .i64 n).wf = true) (he' : (Lit.int .i64 e').wf = true) (hn' : (Lit.int .i64 n').wf = true) (h : keyL e n = keyL e' n') : e = e' ∧ n = n' := by
  have h1 := key_of he hn
  have h2 := key_of he' hn'
  rw [← h] at h2
  have := keyed44.inj h1 h2
  simpa using this

/-- The told numbers: none from (E, N) on is in the set. -/
def Told (w : World) (b n : Nat) (E N : Int) : Prop :=
  ∃ D : DataW Unit, w.ownsMap Try.prog 44 (plainElem Try.prog 4) b n D ∧ IsMap D ∧
    ∀ e k : Int, (Lit.int .i64 e).wf = true → (Lit.int .i64 k).wf = true → (E < e ∨ (E = e ∧ N ≤ k)) → D.atKey (keyL e k) (.lit (.bool false)) = .lit (.bool false)

theorem Told.kept {w w' : World} {b n : Nat} {E N : Int} (h : Told w b n E N) (hb : w'.heap[b]? = w.heap[b]?) : Told w' b n E N := by
  obtain ⟨D, ⟨es, clock, h1, h2, h3, h4⟩, h5, h6⟩ := h
  exact ⟨D, ⟨es, clock, hb.trans h1, h2, h3, h4⟩, h5, h6⟩
theorem Told.mono {w : World} {b n : Nat} {E N : Int} (h : Told w b n E N) {n' : Nat} {E' N' : Int} (hn : n ≤ n') (hE : E < E' ∨ (E = E' ∧ N ≤ N')) : Told w b n' E' N' := by
  obtain ⟨D, h1, h5, h6⟩ := h
  exact ⟨D, h1.mono hn, h5, fun e k he hk hek => h6 e k he hk (by omega)⟩

theorem Told.made (w : World) : Told (w.alloc (.map #[] 0)) w.heap.size 0 0 0 :=
  ⟨.map [], World.ownsMap_made w _ _ _, Go.Maps.isMap_empty, fun _ _ _ _ _ => rfl⟩

theorem Told.lookup {w : World} {b n : Nat} {E N : Int} (h : Told w b n E N) (he : (Lit.int .i64 E).wf = true) (hn : (Lit.int .i64 N).wf = true) :
    (Instr.lookup 43 (.map (some b)) (keyV E N) false).run Try.prog w = .ok (.bool false) w := by
  obtain ⟨D, h1, h5, h6⟩ := h
  obtain ⟨v, ps, hrun, hv⟩ := h1.lookup keyed44 Try.underlying43 (zero4 w) (plainElem_bool Try.underlying4 false) (key_of he hn)
  rw [h6 E N he hn (by omega)] at hv
  have hvf : v = .bool false := by
    unfold plainElem at hv
    rw [Try.underlying4] at hv
    cases v <;> simp at hv
    rw [hv.1]
  rw [hrun, hvf]

theorem Told.store {w : World} {b n : Nat} {E N : Int} (h : Told w b n E N) (he : (Lit.int .i64 E).wf = true) (hn : (Lit.int .i64 N).wf = true) (hm : n < maxLen) :
    ∃ w', (Instr.mapUpdate 43 (.map (some b)) (keyV E N) (.bool true)).run Try.prog w = .ok () w' ∧ Told w' b (n + 1) E (N + 1) ∧ w.grownBy w' (some b) := by
  obtain ⟨D, h1, h5, h6⟩ := h
  obtain ⟨w', hrun, h2, h3⟩ := h1.update keyed44 Try.underlying43 hm (key_of he hn) (plainElem_bool Try.underlying4 true)
  refine ⟨w', hrun, ⟨_, h2, h5.put _ _, fun e k he' hk hek => ?_⟩, h3⟩
  rw [Go.Maps.atKey_put_other]
  · exact h6 e k he' hk (by omega)
  · intro hc
    obtain ⟨h8, h9⟩ := keyL_inj he' hk he hn hc
    omega

theorem Told.lt {w : World} {b n : Nat} {E N : Int} (h : Told w b n E N) : b < w.heap.size := by
  obtain ⟨D, h1, _⟩ := h
  exact h1.lt
theorem Told.set {w : World} {b n : Nat} {E N : Int} (h : Told w b n E N) {p : Addr} (hp : b ≠ p.block) (v : Value) : Told (w.setCell p v) b n E N := h.kept (Below.heap_setCell _ _ _ _ hp)
theorem Told.alloc {w : World} {b n : Nat} {E N : Int} (h : Told w b n E N) (o : Obj) : Told (w.alloc o) b n E N := h.kept (Below.heap_alloc _ _ _ h.lt)
theorem Told.below {w w' : World} {b n : Nat} {E N : Int} (h : Told w b n E N) (hb : Below w.heap.size w w') : Told w' b n E N := h.kept (hb.block _ h.lt)
theorem Told.drew {w : World} {b n : Nat} {E N : Int} (h : Told w b n E N) : Told w.drew b n E N := h
theorem gcell {X w : World} {r : Nat} (h : X.grownBy w (some r)) : (∀ b o, b < X.heap.size → b ≠ r → w.cell? ⟨b, o, none⟩ = X.cell? ⟨b, o, none⟩) ∧ (∀ b o, b < X.heap.size → b ≠ r → w.frozen? ⟨b, o, none⟩ = X.frozen? ⟨b, o, none⟩) :=
  ⟨fun b o h1 h2 => World.cell?_of_block (w := X) (a := ⟨b, o, none⟩) (h.block b h1 (by simpa using h2)), fun b o h1 h2 => World.frozen?_of_block (w := X) (a := ⟨b, o, none⟩) (h.block b h1 (by simpa using h2))⟩

/-- The look-up, at the operation. -/
theorem told_lookup {w : World} {ops : Array Oper} {rest : List Oper} {o : Oper} {a : Act} {Q : Exit → Act → World → Prop} {b n : Nat} {E N : Int}
    (h : Told w b n E N) (he : (Lit.int .i64 E).wf = true) (hn : (Lit.int .i64 N).wf = true)
    (hg : o.guard = none) (m x : Operand) (hop : o.op = Op.lookup 43 m x false) (hmm : a.eval m = .map (some b)) (hx : a.eval x = keyV E N)
    (hK : wpList Try.prog ops Q rest (a.put o.dst (.bool false)) w) :
    wpList Try.prog ops Q (o :: rest) a w := by
  refine wpList_plain hg fun K' hK' => ?_
  unfold Oper.wp
  simp [execOp, hop, hmm, hx, h.lookup he hn, Result.andThen]
  exact hK' _ _ hK

/-- The store, at the operation. -/
theorem told_store {w : World} {ops : Array Oper} {rest : List Oper} {o : Oper} {a : Act} {Q : Exit → Act → World → Prop} {b n : Nat} {E N : Int}
    (h : Told w b n E N) (he : (Lit.int .i64 E).wf = true) (hn : (Lit.int .i64 N).wf = true) (hm : n < maxLen)
    (hg : o.guard = none) (m x v : Operand) (hop : o.op = Op.mapUpdate 43 m x v) (hmm : a.eval m = .map (some b)) (hx : a.eval x = keyV E N) (hv : a.eval v = .bool true)
    (hK : ∀ w', Told w' b (n + 1) E (N + 1) → w.grownBy w' (some b) → wpList Try.prog ops Q rest (a.put o.dst undef) w') :
    wpList Try.prog ops Q (o :: rest) a w := by
  refine wpList_plain hg fun K' hK' => ?_
  obtain ⟨w', hrun, r1, r2⟩ := h.store he hn hm
  unfold Oper.wp
  simp [execOp, hop, hmm, hx, hv, hrun, Result.andThen]
  exact hK' _ _ (hK w' r1 r2)
end Go.Proofs.Ytjlifebdpgjaiaa
