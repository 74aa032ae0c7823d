/- What a parameter of a given form holds: integers, truths, texts, and slices of rows of these, to whatever depth. Generic (no program). -/
import Derived.Test.YtdingfinclcbgaaSE20
import Derived.ChangeArms
namespace Go
namespace ROW
open Go.RowKit Go.ChangeShapes Go.WideShapes Go.ChangeAt Go.SE
set_option linter.unusedVariables false
set_option linter.unusedSimpArgs false
inductive L0 where
  | i (k : IntKind)
  | b
  | s
def okL0 : L0 → Value → Prop
  | .i k, v => ∃ z : Int, v = .int k z ∧ (Lit.int k z).wf = true
  | .b, v => ∃ x : Bool, v = .bool x
  | .s, v => ∃ l : List (BitVec 8), v = strV l ∧ l.length ≤ maxLen
def All2 {α β : Type} (p : α → β → Prop) : List α → List β → Prop
  | [], [] => True
  | a :: as, b :: bs => p a b ∧ All2 p as bs
  | _, _ => False
theorem All2.len {α β : Type} {p : α → β → Prop} : ∀ {as : List α} {bs : List β}, All2 p as bs → as.length = bs.length
  | [], [], _ => rfl
  | a :: as, b :: bs, h => by simp [All2.len h.2]
  | [], _ :: _, h => h.elim
  | _ :: _, [], h => h.elim
theorem All2.app {α β : Type} {p : α → β → Prop} : ∀ {as as' : List α} {bs bs' : List β}, All2 p as bs → All2 p as' bs' → All2 p (as ++ as') (bs ++ bs')
  | [], _, [], _, _, h => h
  | a :: as, _, b :: bs, _, h, h' => ⟨h.1, All2.app h.2 h'⟩
  | [], _, _ :: _, _, h, _ => h.elim
  | _ :: _, _, [], _, h, _ => h.elim
theorem All2.split {α β : Type} {p : α → β → Prop} : ∀ {as as' : List α} {cs : List β}, All2 p (as ++ as') cs → ∃ c c', cs = c ++ c' ∧ All2 p as c ∧ All2 p as' c'
  | [], _, cs, h => ⟨[], cs, rfl, trivial, h⟩
  | a :: as, as', b :: bs, h => by
    obtain ⟨c, c', e, h1, h2⟩ := All2.split (as := as) h.2
    exact ⟨b :: c, c', by rw [e]; rfl, ⟨h.1, h1⟩, h2⟩
  | _ :: _, _, [], h => h.elim
theorem All2.one {α β : Type} {p : α → β → Prop} {a : α} {cs : List β} (h : All2 p [a] cs) : ∃ v, cs = [v] ∧ p a v := by
  match cs, h with
  | [v], h => exact ⟨v, rfl, h.1⟩
theorem All2.cons' {α β : Type} {p : α → β → Prop} {a : α} {as : List α} {cs : List β} (h : All2 p (a :: as) cs) : ∃ v vs, cs = v :: vs ∧ p a v ∧ All2 p as vs := by
  match cs, h with
  | v :: vs, h => exact ⟨v, vs, rfl, h.1, h.2⟩
/-- A form, so many slices deep. -/
def Lf : Nat → Type
  | 0 => L0
  | n + 1 => L0 ⊕ List (Lf n)
/-- A slice's value and its cells. -/
def SlE {α : Type} (W : World) (p : α → Value → Prop) (es : List α) (v : Value) : Prop :=
  ∃ A len cap, v = .slice A len cap ∧ len ≤ cap ∧ cap ≤ maxLen ∧ ∃ (b off : Nat) (cs : List Value), cs.length = len * es.length ∧ (0 < len → A = some ⟨b, off, none⟩ ∧ b < W.heap.size) ∧
    (∀ j v, cs[j]? = some v → W.cell? ⟨b, off + j, none⟩ = some v) ∧ ∀ i, i < len → All2 p es ((cs.drop (i * es.length)).take es.length)
def FitsE (W : World) : (n : Nat) → Lf n → Value → Prop
  | 0, l, v => okL0 l v
  | _ + 1, .inl l, v => okL0 l v
  | n + 1, .inr es, v => SlE W (FitsE W n) es v
def lit0 : (n : Nat) → L0 → Lf n
  | 0, l => l
  | _ + 1, l => .inl l
theorem fits0 {W : World} {l : L0} {v : Value} (h : okL0 l v) : ∀ n, FitsE W n (lit0 n l) v
  | 0 => h
  | _ + 1 => h
/-- A type's form. -/
def form (P : Program) : (n g : Nat) → TypeId → Option (List (Lf n))
  | _, 0, _ => none
  | n, g + 1, t => match P.underlying t with
    | some (.int k) => some [lit0 n (.i k)]
    | some .bool => some [lit0 n .b]
    | some .string => some [lit0 n .s]
    | some (.slice e) => match n with
      | 0 => none
      | m + 1 => match form P m g e with
        | some es => if es.length = P.cellsOf e ∧ 0 < es.length then some [.inr es] else none
        | none => none
    | some (.array k e) => match form P n g e with
      | some es => if es.length = P.cellsOf e ∧ P.cellsOf t = k * es.length then some (List.replicate k es).flatten else none
      | none => none
    | some (.struct fs) => match fs.toList.foldr (fun f acc => match acc, form P n g f.type with
        | some l, some es => if es.length = P.cellsOf f.type ∧ f.offset + es.length + l.length = P.cellsOf t then some (es ++ l) else none
        | _, _ => none) (some []) with
      | some l => if l.length = P.cellsOf t then some l else none
      | none => none
    | _ => none
section
variable {H : Type} {enc : TypeId × Value → H} {P : Program} {W : World}
theorem ByteArray_str (s : ByteArray) : ∃ l : List (BitVec 8), Value.string s = strV l ∧ l.length = s.size := by
  refine ⟨s.data.toList.map (·.toBitVec), ?_, by simp⟩
  unfold strV strB
  congr 1
  apply ByteArray.ext
  apply Array.ext'
  simp [List.map_map, Function.comp_def]
theorem arr_fits {n : Nat} {es : List (Lf n)} : ∀ (k : Nat) (cs : List Value), cs.length = k * es.length → (∀ i, i < k → All2 (FitsE W n) es ((cs.drop (i * es.length)).take es.length)) → All2 (FitsE W n) (List.replicate k es).flatten cs
  | 0, cs, hl, _ => by
    have : cs = [] := List.eq_nil_of_length_eq_zero (by simpa using hl)
    subst this
    trivial
  | k + 1, cs, hl, h => by
    rw [List.replicate_succ, List.flatten_cons, ← List.take_append_drop es.length cs]
    have hl2 : cs.length = k * es.length + es.length := by rw [hl, Nat.add_mul, Nat.one_mul]
    refine All2.app ?_ (arr_fits k (cs.drop es.length) (by rw [List.length_drop]; omega) fun i hi => ?_)
    · have := h 0 (by omega)
      rwa [Nat.zero_mul, List.drop_zero] at this
    · have := h (i + 1) (by omega)
      rw [List.drop_drop]
      rwa [Nat.add_mul, Nat.one_mul, Nat.add_comm] at this
theorem trod_fits : ∀ (g n : Nat) (t : TypeId) (ls : List (Lf n)) (fuel : Nat) (cs : List Value) (x : DataW H × List MemPlace), form P n g t = some ls → DataW.trod enc P W 0 (fun _ => true) true fuel t cs = some x → All2 (FitsE W n) ls cs := by
  intro g
  induction g with
  | zero => intro n t ls fuel cs x h _; cases n <;> cases h
  | succ g ih =>
    intro n t ls fuel cs x h hf
    unfold form at h
    split at h
    · rename_i k ht
      obtain rfl := Option.some.inj h
      obtain ⟨z, rfl, _, hw⟩ := DataW.trod_int ht hf
      exact ⟨fits0 (l := .i k) (show okL0 (.i k) _ from ⟨z, rfl, hw⟩) n, trivial⟩
    · rename_i ht
      obtain rfl := Option.some.inj h
      obtain ⟨b, rfl, _⟩ := DataW.trod_bool ht hf
      exact ⟨fits0 (l := .b) (show okL0 .b _ from ⟨b, rfl⟩) n, trivial⟩
    · rename_i ht
      obtain rfl := Option.some.inj h
      obtain ⟨s, rfl, _, hs⟩ := DataW.trod_string ht hf
      obtain ⟨l, h1, h2⟩ := ByteArray_str s
      exact ⟨fits0 (l := .s) (show okL0 .s _ from ⟨l, h1, by omega⟩) n, trivial⟩
    · rename_i e ht
      cases n with
      | zero => cases h
      | succ m =>
        simp only at h
        split at h
        · rename_i es he
          split at h
          · rename_i hc
            obtain rfl := Option.some.inj h
            rcases DataW.trod_slice ht hf with ⟨rfl, _⟩ | ⟨a, len, cap, elems, rest, k, _, rfl, _, _, hl, hm, hlen, hel, _, _⟩
            · refine ⟨⟨none, 0, 0, rfl, Nat.le_refl _, Nat.zero_le _, 0, 0, [], by simp, fun h => absurd h (by decide), fun j v h => by simp at h, fun i hi => absurd hi (by omega)⟩, trivial⟩
            · refine ⟨?_, trivial⟩
              have hall : ∀ i, i < len → ∃ ecs, W.cells? 0 (a.add (i * es.length)) es.length = some ecs ∧ All2 (FitsE W m) es ecs := fun i hi => by
                have h1 := hel i hi
                rw [List.getElem?_eq_getElem (by omega), Option.bind_eq_some_iff] at h1
                obtain ⟨ecs, h2, h3⟩ := h1
                rw [← hc.1] at h2
                exact ⟨ecs, h2, ih m e es k ecs _ he h3⟩
              by_cases h0 : 0 < len
              · obtain ⟨e0, hz0, _⟩ := hall 0 h0
                obtain ⟨b, off, spot⟩ := a
                have hspot : spot = none := by
                  have h4 := (World.cells?_some hz0).2.2 0 hc.2
                  have h5 := (World.cells?_some hz0).2.1
                  rw [List.getElem?_eq_getElem (by omega)] at h4
                  simpa [Addr.add] using World.cell?_spot h4
                subst hspot
                have hb : b < W.heap.size := by
                  have := World.cells?_block hz0 hc.2
                  rwa [add_addr] at this
                have hcell : ∀ j, j < len * es.length → ∃ v, W.cell? ⟨b, off + j, none⟩ = some v := fun j hj => by
                  have hi : j / es.length < len := by rw [Nat.div_lt_iff_lt_mul hc.2]; exact hj
                  obtain ⟨ec, h1, _⟩ := hall _ hi
                  have hr : j % es.length < es.length := Nat.mod_lt _ hc.2
                  have h2 := (World.cells?_some h1).2.2 _ hr
                  have h3 := (World.cells?_some h1).2.1
                  rw [add_addr, add_addr, List.getElem?_eq_getElem (by omega)] at h2
                  have e1 : off + j / es.length * es.length + j % es.length = off + j := by rw [Nat.add_assoc, Nat.div_add_mod']
                  rw [e1] at h2
                  exact ⟨_, h2⟩
                refine ⟨some ⟨b, off, none⟩, len, cap, rfl, hl, hm, b, off, (List.range (len * es.length)).map fun j => (W.cell? ⟨b, off + j, none⟩).getD undef, by simp, fun _ => ⟨rfl, hb⟩, fun j v hj => ?_, fun i hi => ?_⟩
                · rw [List.getElem?_map] at hj
                  obtain ⟨j', h1, h2⟩ := Option.map_eq_some_iff.1 hj
                  have hlt : j < len * es.length := by
                    have := (List.getElem?_eq_some_iff.1 h1).1
                    simpa using this
                  rw [List.getElem?_range hlt] at h1
                  obtain rfl := Option.some.inj h1
                  obtain ⟨v', hv'⟩ := hcell j hlt
                  rw [hv'] at h2 ⊢
                  exact congrArg some h2
                · obtain ⟨ec, h1, h2⟩ := hall i hi
                  obtain ⟨_, h3, h4⟩ := World.cells?_some h1
                  have : (List.drop (i * es.length) ((List.range (len * es.length)).map fun j => (W.cell? ⟨b, off + j, none⟩).getD undef)).take es.length = ec := by
                    have hle : i * es.length + es.length ≤ len * es.length := by
                      rw [← Nat.succ_mul]
                      exact Nat.mul_le_mul_right _ hi
                    apply List.ext_getElem?
                    intro j
                    by_cases hj : j < es.length
                    · rw [List.getElem?_take_of_lt hj, List.getElem?_drop, List.getElem?_map, List.getElem?_range (by omega)]
                      have h5 := h4 j hj
                      rw [add_addr, add_addr] at h5
                      show some ((W.cell? ⟨b, off + (i * es.length + j), none⟩).getD undef) = _
                      rw [← Nat.add_assoc, h5, List.getElem?_eq_getElem (by omega)]
                      rfl
                    · rw [List.getElem?_eq_none (by simp; omega), List.getElem?_eq_none (by omega)]
                  rw [this]
                  exact h2
              · have : len = 0 := by omega
                subst this
                exact ⟨some a, 0, cap, rfl, hl, hm, 0, 0, [], by simp, fun h => absurd h (by decide), fun j v h => by simp at h, fun i hi => absurd hi (by omega)⟩
          · cases h
        · cases h
    · rename_i k e ht
      split at h
      · rename_i es he
        split at h
        · rename_i hc
          obtain rfl := Option.some.inj h
          cases fuel with
          | zero => cases hf
          | succ fuel =>
            unfold DataW.trod at hf
            rw [ht] at hf
            simp only at hf
            split at hf
            · rename_i hl
              obtain ⟨xs, hx, _⟩ := Option.map_eq_some_iff.1 hf
              refine arr_fits k cs (hl.trans hc.2) fun i hi => ?_
              obtain ⟨y, hy⟩ := mapM_each hx i (List.mem_range.2 hi)
              rw [← hc.1] at hy
              exact ih n e es fuel _ y he hy
            · cases hf
        · cases h
      · cases h
    · rename_i fs ht
      split at h
      · rename_i l hfold
        split at h
        · rename_i hlt
          obtain rfl := Option.some.inj h
          cases fuel with
          | zero => cases hf
          | succ fuel =>
            unfold DataW.trod at hf
            rw [ht] at hf
            simp only at hf
            split at hf
            · rename_i hl
              obtain ⟨xs, hx, _⟩ := Option.map_eq_some_iff.1 hf
              have hx2 := fun f (hm : f ∈ fs.toList) => mapM_each hx f hm
              have key : ∀ (fl : List Field) (ls : List (Lf n)), (∀ f ∈ fl, ∃ y, DataW.trod enc P W 0 (fun _ => true) true fuel f.type ((cs.drop f.offset).take (P.cellsOf f.type)) = some y) →
                  fl.foldr (fun f acc => match acc, form P n g f.type with
                    | some l, some es => if es.length = P.cellsOf f.type ∧ f.offset + es.length + l.length = P.cellsOf t then some (es ++ l) else none
                    | _, _ => none) (some []) = some ls → ls.length ≤ cs.length → All2 (FitsE W n) ls (cs.drop (cs.length - ls.length)) := by
                intro fl
                induction fl with
                | nil =>
                  intro ls _ h1 _
                  obtain rfl := Option.some.inj h1
                  simp [All2]
                | cons f fl ihf =>
                  intro ls hall h1 hle
                  rw [List.foldr_cons] at h1
                  split at h1
                  · rename_i l' es hl' hes
                    split at h1
                    · rename_i hcc
                      obtain rfl := Option.some.inj h1
                      rw [List.length_append] at hle ⊢
                      have h2 := ihf l' (fun f hm => hall f (List.mem_cons_of_mem _ hm)) hl' (by omega)
                      obtain ⟨y, hy⟩ := hall f List.mem_cons_self
                      rw [← hcc.1] at hy
                      have h3 := ih n f.type es fuel _ y hes hy
                      have e1 : f.offset = cs.length - (es.length + l'.length) := by omega
                      rw [e1] at h3
                      have e2 : cs.drop (cs.length - (es.length + l'.length)) = (cs.drop (cs.length - (es.length + l'.length))).take es.length ++ cs.drop (cs.length - l'.length) := by
                        have := List.take_append_drop es.length (cs.drop (cs.length - (es.length + l'.length)))
                        rw [List.drop_drop] at this
                        rw [show cs.length - l'.length = cs.length - (es.length + l'.length) + es.length by omega, this]
                      rw [e2]
                      exact All2.app h3 h2
                    · cases h1
                  · cases h1
              have := key fs.toList l hx2 hfold (by omega)
              rwa [show cs.length - l.length = 0 by omega, List.drop_zero] at this
            · cases hf
        · cases h
      · cases h
    · cases h
/-- A parameter of a struct's or an array's type. -/
theorem open_agg {n g : Nat} {t : TypeId} {ls : List (Lf n)} {r : Reach} {b0 : Nat} {v : Value} {d : DataW H} {p : List MemPlace} (hf : form P n g t = some ls) (ht : (∃ fs, P.underlying t = some (.struct fs)) ∨ ∃ k e, P.underlying t = some (.array k e)) (hval : Value.okWide P W r b0 t v)
    (hj : DataW.Trod enc P W 0 (fun _ => true) true t v d p) : ∃ cs, v = .agg cs.toArray ∧ All2 (FitsE W n) ls cs := by
  obtain ⟨fuel, hj⟩ := hj
  have h1 := trod_fits g n t ls fuel _ _ hf hj
  unfold Value.okWide at hval
  rcases ht with ⟨fs, ht⟩ | ⟨k, e, ht⟩
  · rw [ht] at hval
    obtain ⟨cs, rfl, _⟩ := hval
    exact ⟨cs.toList, rfl, h1⟩
  · rw [ht] at hval
    obtain ⟨cs, rfl, _⟩ := hval
    exact ⟨cs.toList, rfl, h1⟩
/-- A parameter that is a slice. -/
theorem open_slice {n g : Nat} {t e : TypeId} {es : List (Lf n)} {r : Reach} {b0 : Nat} {v : Value} {d : DataW H} {p : List MemPlace} (hf : form P (n + 1) g t = some [.inr es]) (ht : P.underlying t = some (.slice e)) (hval : Value.okWide P W r b0 t v)
    (hj : DataW.Trod enc P W 0 (fun _ => true) true t v d p) : SlE W (FitsE W n) es v := by
  obtain ⟨a0, len, cap, rfl⟩ := okWide_slice ht hval
  obtain ⟨fuel, hj⟩ := hj
  exact (trod_fits g (n + 1) t _ fuel _ _ hf hj).1
end
/-! ### Of one kind -/
theorem fits_words {W : World} {k : IntKind} {n : Nat} (hk : UK k n) : ∀ {m : Nat} {d : Nat} {cs : List Value}, All2 (FitsE W d) (List.replicate m (lit0 d (.i k))) cs → ∃ a : List (BitVec n), cs = a.map (fun b => Value.int k (b.toNat : Int)) ∧ a.length = m
  | 0, d, cs, h => by
    cases cs with
    | nil => exact ⟨[], rfl, rfl⟩
    | cons _ _ => exact h.elim
  | m + 1, d, cs, h => by
    obtain ⟨v, vs, rfl, h1, h2⟩ := All2.cons' (show All2 _ (_ :: List.replicate m _) cs from h)
    obtain ⟨a, rfl, ha⟩ := fits_words hk h2
    have h1 : okL0 (.i k) v := by cases d <;> exact h1
    obtain ⟨z, rfl, hz⟩ := h1
    obtain ⟨x, rfl⟩ := word_of hk hz
    exact ⟨x :: a, rfl, by simp [ha]⟩
theorem fits_ints {W : World} {k : IntKind} : ∀ {m : Nat} {d : Nat} {cs : List Value}, All2 (FitsE W d) (List.replicate m (lit0 d (.i k))) cs → ∃ a : List Int, cs = a.map (Value.int k) ∧ a.length = m ∧ ∀ z ∈ a, (Lit.int k z).wf = true
  | 0, d, cs, h => by
    cases cs with
    | nil => exact ⟨[], rfl, rfl, by simp⟩
    | cons _ _ => exact h.elim
  | m + 1, d, cs, h => by
    obtain ⟨v, vs, rfl, h1, h2⟩ := All2.cons' (show All2 _ (_ :: List.replicate m _) cs from h)
    obtain ⟨a, rfl, ha, hw⟩ := fits_ints h2
    have h1 : okL0 (.i k) v := by cases d <;> exact h1
    obtain ⟨z, rfl, hz⟩ := h1
    refine ⟨z :: a, rfl, by simp [ha], fun y hy => ?_⟩
    rcases List.mem_cons.1 hy with rfl | hy
    · exact hz
    · exact hw y hy
theorem fits_int {W : World} {k : IntKind} {d : Nat} {v : Value} (h : FitsE W d (lit0 d (.i k)) v) : ∃ z : Int, v = .int k z ∧ (Lit.int k z).wf = true := by cases d <;> exact h
theorem fits_bool {W : World} {d : Nat} {v : Value} (h : FitsE W d (lit0 d .b) v) : ∃ z : Bool, v = .bool z := by cases d <;> exact h
theorem fits_str {W : World} {d : Nat} {v : Value} (h : FitsE W d (lit0 d .s) v) : ∃ l : List (BitVec 8), v = strV l ∧ l.length ≤ maxLen := by cases d <;> exact h
/-- A slice of bytes among others. -/
theorem sl_bytes {W : World} {d : Nat} {v : Value} (h : SlE W (FitsE W d) [lit0 d (.i .u8)] v) : ∃ A c b s, ∃ l : List (BitVec 8), v = .slice A l.length c ∧ Bts W A c b s l := by
  obtain ⟨A, len, cap, rfl, h1, h2, b, off, cs, h3, h4, h5, h6⟩ := h
  have key : ∀ (n : Nat) (ds : List Value), ds.length = n * 1 → (∀ i, i < n → All2 (FitsE W d) [lit0 d (.i .u8)] ((ds.drop (i * 1)).take 1)) → ∃ l : List (BitVec 8), ds = l.map u8V ∧ l.length = n := by
    intro n
    induction n with
    | zero => intro ds hl _; exact ⟨[], List.eq_nil_of_length_eq_zero (by simpa using hl), rfl⟩
    | succ n ih =>
      intro ds hl h
      match ds, hl with
      | x :: ds, hl =>
        obtain ⟨l, rfl, hn⟩ := ih ds (by simp at hl ⊢; omega) fun i hi => by
          have := h (i + 1) (by omega)
          simpa using this
        have h0 := h 0 (by omega)
        obtain ⟨z, rfl, hz⟩ := fits_int (show FitsE W d (lit0 d (.i .u8)) x from h0.1)
        obtain ⟨y, rfl⟩ := word_of UK.u8 hz
        exact ⟨y :: l, rfl, by simp [hn]⟩
  obtain ⟨l, rfl, hl⟩ := key len cs h3 h6
  subst hl
  exact ⟨A, cap, b, off, l, rfl, h1, h2, h4, h5⟩
end ROW
end Go
