/- What a struct's slice weighs. -/
import Derived.Test.YtihciioopdalnaaSE23
import Derived.Test.YtihciioopdalnaaSE21
namespace Go
namespace ROW
open Go.RowKit Go.ChangeShapes Go.WideShapes Go.ChangeAt Go.SE
set_option linter.unusedVariables false
set_option linter.unusedSimpArgs false
section
variable {H : Type} {enc : TypeId × Value → H} {P : Program} {W : World}
theorem weigh3 {t e : TypeId} {fs : Array Field} {f0 f1 f2 : Field} {cs : List Value} {A : Option Addr} {n c fuel B : Nat} {x : DataW H × List MemPlace} (ht : P.underlying t = some (.struct fs)) (hfs : fs.toList = [f0, f1, f2]) (h2 : P.underlying f2.type = some (.slice e))
    (hcs : (cs.drop f2.offset).take (P.cellsOf f2.type) = [.slice A n c]) (hf : DataW.trod enc P W 0 (fun _ => true) true fuel t cs = some x) (hB : (x.1.weights P t).all (· ≤ B) = true) : c * P.bytesOf e ≤ B := by
  cases fuel with
  | zero => cases hf
  | succ fuel =>
    unfold DataW.trod at hf
    rw [ht] at hf
    simp only at hf
    split at hf
    · obtain ⟨xs, hx, rfl⟩ := Option.map_eq_some_iff.1 hf
      rw [hfs] at hx
      simp only [List.mapM_cons, List.mapM_nil, Option.bind_eq_bind, Option.bind_eq_some_iff, Option.pure_def, Option.some.injEq] at hx
      obtain ⟨x0, _, l0, ⟨x1, _, l1, ⟨x2, hx2, l2, rfl, rfl⟩, rfl⟩, rfl⟩ := hx
      rw [hcs] at hx2
      have hw : ∀ z ∈ x2.1.weights P f2.type, z ≤ B := fun z hz => by
        have h3 := List.all_eq_true.1 hB z (by
          unfold DataW.weights
          rw [ht]
          simp only [hfs, List.map_cons, List.map_nil]
          unfold DataW.weightsEach
          refine List.mem_append_right _ ?_
          unfold DataW.weightsEach
          refine List.mem_append_right _ ?_
          unfold DataW.weightsEach
          exact List.mem_append_left _ hz)
        simpa using h3
      rcases DataW.trod_slice h2 hx2 with ⟨h0, _⟩ | ⟨a, len, cap, elems, rest, k, _, h0, hxx, _, hl, _, hlen, _, hsp, _⟩
      · have : c = 0 := by simp at h0; omega
        subst this
        simp
      · have h1 : c = cap ∧ n = len := by simp at h0; omega
        have h4 : x2.1 = .slice (elems.map (·.1)) (rest.map (·.1)) := by rw [hxx]
        have h5 := hw ((elems.length + rest.length) * P.bytesOf e) (by
          rw [h4]
          unfold DataW.weights
          rw [h2]
          simp)
        have h6 := (hsp rfl).1
        have h7 : elems.length + rest.length = c := by omega
        rwa [h7] at h5
    · cases hf
end
end ROW
end Go
