/- Functions that take a family's rows, to be read. -/
import Derived.Test.YtdingfinclcbgaaSE39
namespace Go
namespace SE
open Go.RowKit
set_option linter.unusedVariables false
set_option linter.unusedSimpArgs false
/-- What is seen of an element. -/
abbrev BG.vrow (e : BG) : Row := ⟨false, e.b, e.q, 0, e.l.map u8V, 0⟩
abbrev famR (b : Nat) (es : List BG) : Fam := ⟨b, dlt es.length, fun i => (es.getD i default).vrow⟩
theorem HR.famR {E : Env} {w : World} {fixed : List Row} {es : List BG} {b : Nat} (h : HR E (hL (fixed ++ es.map BG.vrow)) w) : HR E (famsOf (hL fixed) [famR b es]) w := by
  have get : ∀ i, i < es.length → (hL (fixed ++ es.map BG.vrow)) (fixed.length + i) = some (es.getD i default).vrow := fun i hi => by
    show (fixed ++ es.map BG.vrow)[fixed.length + i]? = _
    rw [List.getElem?_append_right (Nat.le_add_right _ _), Nat.add_sub_cancel_left, List.getElem?_map, List.getElem?_eq_getElem hi, List.getD_eq_getElem?_getD, List.getElem?_eq_getElem hi]
    rfl
  have low : ∀ k r, hL fixed k = some r → hL (fixed ++ es.map BG.vrow) k = some r := fun k r hk => by
    have hk : fixed[k]? = some r := hk
    show (fixed ++ es.map BG.vrow)[k]? = some r
    rw [List.getElem?_append_left (List.getElem?_eq_some_iff.1 hk).1, hk]
  constructor
  · intro k r hk
    rcases famsOf_some hk with ⟨f, hf, i, hi, _, rfl⟩ | ⟨_, hk⟩
    · rw [List.mem_singleton.1 hf] at hi ⊢
      exact h.row _ _ (get i (dlt_iff.1 hi))
    · exact h.row _ _ (low k r hk)
  · intro k k' r r' hk hk' ho ho' hne h1 h2
    rcases famsOf_some hk with ⟨f, hf, i, hi, _, rfl⟩ | ⟨_, hk⟩
    · rw [List.mem_singleton.1 hf] at ho
      cases ho
    rcases famsOf_some hk' with ⟨f, hf, i, hi, _, rfl⟩ | ⟨_, hk'⟩
    · rw [List.mem_singleton.1 hf] at ho'
      cases ho'
    exact h.apart _ _ _ _ (low k r hk) (low k' r' hk') ho ho' hne h1 h2
section
variable {P : Program}
/-- A function is entered with a family. -/
theorem Con.enterF (b : Nat) {f : FuncId} {fn : Func} {c : Code} {args : List Value} {fixed : List Row} {es : List BG} {post : Value → List Row → Prop} {n : Nat} (hf : P.funcs[f]? = some fn) (hn : fn.ntmps = n) (hle : args.length ≤ n) (hb : fn.body = some c)
    (h : ∀ w, At ⟨w, ownB (fixed ++ es.map BG.vrow), n, []⟩ (frA args) (famsOf (hL fixed) [famR b es])
      (c.wp P (bodyPost P fn fun e w' => ∃ v rows', e = .returned v ∧ post v rows' ∧ Chg (ownB (fixed ++ es.map BG.vrow)) w w' ∧ (∀ r ∈ rows', r.own = true) ∧ HR ⟨w, ownB (fixed ++ es.map BG.vrow), 0, []⟩ (hL rows') w'))) : Con P f args (fixed ++ es.map BG.vrow) post :=
  Con.enter hf hn hle hb fun w a w1 R => h w a w1 ⟨R.df, R.size, R.fr, R.chg, R.heap.famR⟩
/-- The views of a family's elements. -/
def famV (b : Nat) (es : List BG) : List (Nat × Row) := (List.range es.length).map fun i => (lf b i, (es.getD i default).vrow)
theorem famV_rows (b : Nat) (es : List BG) : (famV b es).map (·.2) = es.map BG.vrow := by
  apply List.ext_getElem (by simp [famV])
  intro i h1 h2
  have h3 : i < es.length := by simpa using h2
  simp [famV, List.getD_eq_getElem?_getD, h3]
theorem AllL.of_mem {α : Type} {p : α → Prop} : ∀ {l : List α}, (∀ x ∈ l, p x) → AllL p l
  | [], _ => trivial
  | [x], h => h x (by simp)
  | x :: y :: l, h => ⟨h x (by simp), AllL.of_mem fun z hz => h z (List.mem_cons_of_mem _ hz)⟩
theorem viewsF {H : Hp} {views : List (Nat × Row)} {b : Nat} {ty : TypeId} {es : List BG} (hV : ViewsOk H [] views) (hF : FamOk H (famG b ty es)) (hes : ∀ e ∈ es, e.ok) : ViewsOk H [] (views ++ famV b es) := by
  refine AllL.of_mem fun p hp => ?_
  rcases List.mem_append.1 hp with hp | hp
  · exact hV.mem p hp
  · obtain ⟨i, hi, rfl⟩ := List.mem_map.1 hp
    have hi : i < es.length := List.mem_range.1 hi
    exact Or.inr ⟨by simp, _, hF i (dlt_iff.2 hi), BG.see (hes _ (getDG_mem hi))⟩
theorem viewsR {H : Hp} {views : List (Nat × Row)} {b : Nat} {es : List BG} (hV : ViewsOk H [] views) (hF : FamOk H (famR b es)) : ViewsOk H [] (views ++ famV b es) := by
  refine AllL.of_mem fun p hp => ?_
  rcases List.mem_append.1 hp with hp | hp
  · exact hV.mem p hp
  · obtain ⟨i, hi, rfl⟩ := List.mem_map.1 hp
    have hi : i < es.length := List.mem_range.1 hi
    exact Or.inr ⟨by simp, _, hF i (dlt_iff.2 hi), View.all⟩
theorem Con.famV {f : FuncId} {args : List Value} {views : List (Nat × Row)} {b : Nat} {es : List BG} {post : Value → List Row → Prop} (h : Con P f args (views.map (·.2) ++ es.map BG.vrow) post) : Con P f args ((views ++ SE.famV b es).map (·.2)) post := by
  rw [List.map_append, famV_rows]
  exact h
end
end SE
end Go
