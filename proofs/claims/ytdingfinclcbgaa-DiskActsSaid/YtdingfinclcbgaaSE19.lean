/- A law's parameter that is a struct of two arrays of words. Generic (no program). -/
import Derived.Test.YtdingfinclcbgaaSE18
namespace Go
namespace ROW
open Go.ChangeShapes Go.WideShapes Go.ChangeAt Go.RowKit Go.SE
set_option linter.unusedVariables false
set_option linter.unusedSimpArgs false
theorem trod_words {H : Type} {enc : TypeId × Value → H} {P : Program} {W : World} {m n fuel : Nat} {t e : TypeId} {k : IntKind} {cs : List Value} {x : DataW H × List MemPlace} (hk : UK k n)
    (ht : P.underlying t = some (.array m e)) (he : P.underlying e = some (.int k)) (hc : P.cellsOf e = 1) (hct : P.cellsOf t = m)
    (hf : DataW.trod enc P W 0 (fun _ => true) true fuel t cs = some x) : ∃ a : List (BitVec n), cs = (a.map fun b => Value.int k (b.toNat : Int)) ∧ a.length = m := by
  cases fuel with
  | zero => cases hf
  | succ fuel =>
    unfold DataW.trod at hf
    rw [ht] at hf
    simp only at hf
    split at hf
    · rename_i hsz
      obtain ⟨xs, hx, _⟩ := Option.map_eq_some_iff.1 hf
      have hlen : cs.length = m := by rw [← hct]; exact hsz
      have hall : ∀ i, i < m → ∃ z, cs[i]? = some (Value.int k z) ∧ (Lit.int k z).wf = true := by
        intro i hi
        have hmem : i ∈ List.range m := List.mem_range.2 hi
        obtain ⟨x, hx1⟩ := mapM_each hx i hmem
        rw [hc, Nat.mul_one] at hx1
        have hg : (cs.drop i).take 1 = [cs[i]'(by omega)] := by
          rw [List.drop_eq_getElem_cons (by omega)]
          rfl
        rw [hg] at hx1
        cases fuel with
        | zero => cases hx1
        | succ fuel =>
          unfold DataW.trod at hx1
          rw [he] at hx1
          split at hx1 <;> simp_all
      obtain ⟨zs, h1, h2⟩ := ints_of (k := k) cs fun i hi => hall i (by omega)
      obtain ⟨a, h3, rfl⟩ := words_of hk zs h2
      refine ⟨a, ?_, ?_⟩
      · rw [h1, List.map_map]
        rfl
      · rw [h1] at hlen
        simpa using hlen
    · cases hf
theorem open_pair {H : Type} {enc : TypeId × Value → H} {P : Program} {W : World} {r : Reach} {b0 m0 m1 n0 n1 : Nat} {t e0 e1 : TypeId} {f0 f1 : Field} {k0 k1 : IntKind} {v : Value} {d : DataW H} {p : List MemPlace} (hk0 : UK k0 n0) (hk1 : UK k1 n1)
    (ht : P.underlying t = some (.struct #[f0, f1])) (ht0 : P.underlying f0.type = some (.array m0 e0)) (ht1 : P.underlying f1.type = some (.array m1 e1)) (he0 : P.underlying e0 = some (.int k0)) (he1 : P.underlying e1 = some (.int k1))
    (hc0 : P.cellsOf e0 = 1) (hc1 : P.cellsOf e1 = 1) (hct0 : P.cellsOf f0.type = m0) (hct1 : P.cellsOf f1.type = m1) (ho0 : f0.offset = 0) (ho1 : f1.offset = m0) (hct : P.cellsOf t = m0 + m1) (hval : Value.okWide P W r b0 t v)
    (hj : DataW.Trod enc P W 0 (fun _ => true) true t v d p) : ∃ (a : List (BitVec n0)) (b : List (BitVec n1)), v = .agg ((a.map fun b => Value.int k0 (b.toNat : Int)) ++ (b.map fun b => Value.int k1 (b.toNat : Int))).toArray ∧ a.length = m0 ∧ b.length = m1 := by
  obtain ⟨cs, rfl, hsz⟩ := okWide_struct ht hval
  obtain ⟨fuel, hf⟩ := hj
  have hcells : (Value.agg cs).cells.toList = cs.toList := rfl
  rw [hcells] at hf
  cases fuel with
  | zero => cases hf
  | succ fuel =>
    unfold DataW.trod at hf
    rw [ht] at hf
    simp only at hf
    rw [if_pos (by simpa using hsz)] at hf
    obtain ⟨xs, hx, _⟩ := Option.map_eq_some_iff.1 hf
    obtain ⟨y0, h0⟩ := mapM_each hx f0 (by simp)
    obtain ⟨y1, h1⟩ := mapM_each hx f1 (by simp)
    obtain ⟨a, ha, hal⟩ := trod_words hk0 ht0 he0 hc0 hct0 h0
    obtain ⟨b, hb, hbl⟩ := trod_words hk1 ht1 he1 hc1 hct1 h1
    have hlen : cs.toList.length = m0 + m1 := by rw [← hct]; simpa using hsz
    rw [ho0, List.drop_zero, hct0] at ha
    rw [ho1, hct1, List.take_of_length_le (by rw [List.length_drop]; omega)] at hb
    refine ⟨a, b, ?_, hal, hbl⟩
    congr 1
    apply Array.ext'
    show cs.toList = _ ++ _
    rw [← ha, ← hb, List.take_append_drop]
end ROW
end Go
