/- Equality of values without addresses; structs built of parts; a field of a struct's value. Generic (no program). -/
import Derived.Test.YtdingfinclcbgaaSE21
import Derived.Test.YtdingfinclcbgaaSE11
import Derived.Laws.StructEq
import Derived.ChangeKeysEq
namespace Go
namespace SE
open Go.RowKit Go.ROW
set_option linter.unusedVariables false
set_option linter.unusedSimpArgs false
section
variable {P : Program} {w : World}
abbrev okf : Lf 0 → Value → Prop := fun l v => okL0 l v
/-- The value of a type's cells. -/
def vof (P : Program) (t : TypeId) (xs : List Value) : Value := match P.underlying t with
  | some D => if aggD D then .agg xs.toArray else xs.headD undef
  | none => undef
/-- Types whose values are compared cell by cell. -/
def eqB (P : Program) : Nat → TypeId → Bool
  | 0, _ => false
  | g + 1, t => match P.underlying t with
    | some (.int _) => true
    | some .bool => true
    | some (.array _ e) => eqB P g e && (tsz P e).isSome
    | some (.struct fs) => !P.stoodInHeld t && fs.toList.all fun f => f.name != "_" && eqB P g f.type && (tsz P f.type).isSome
    | _ => false
theorem run_part_flat {t : TypeId} {n : Nat} {cs xs : List Value} {off : Nat} {D : TypeDesc} (hD : P.underlying t = some D) (hz : tsz P t = some n) (hx : (cs.drop off).take n = xs) (hn : xs.length = n) (h1 : aggD D = false → n = 1) : (part t cs.toArray off).run P w = .ok (vof P t xs) w := by
  unfold part vof
  rw [hD]
  cases hd : aggD D with
  | true =>
    simp only [Sem.run_bind, run_isAgg hD, hd, Result.andThen_ok, if_true, run_tsz hz, Sem.run_pure]
    congr 2
    apply Array.ext'
    rw [← hx]
    simp [List.take_drop]
  | false =>
    have := h1 hd
    subst this
    match xs, hn with
    | [x], _ =>
      have : cs[off]? = some x := by
        have := congrArg (fun l : List Value => l[0]?) hx
        simpa [List.getElem?_take, List.getElem?_drop] using this
      simp [run_isAgg hD, hd, this]
theorem form_len {n : Nat} : ∀ (g : Nat) (t : TypeId) (ls : List (Lf n)) (D : TypeDesc), form P n g t = some ls → P.underlying t = some D → aggD D = false → ls.length = 1 := by
  intro g t ls D h hD hd
  cases g with
  | zero => cases n <;> cases h
  | succ g =>
    unfold form at h
    rw [hD] at h
    cases D with
    | int k => obtain rfl := Option.some.inj h; rfl
    | bool => obtain rfl := Option.some.inj h; rfl
    | string => obtain rfl := Option.some.inj h; rfl
    | slice e =>
      cases n with
      | zero => cases h
      | succ m =>
        simp only at h
        split at h
        · split at h
          · obtain rfl := Option.some.inj h; rfl
          · cases h
        · cases h
    | struct fs => cases hd
    | array k e => cases hd
    | _ => cases h
theorem cellsOf_tsz {t : TypeId} (h : (tsz P t).isSome = true) : tsz P t = some (P.cellsOf t) := by
  obtain ⟨n, hn⟩ := Option.isSome_iff_exists.1 h
  rw [hn]
  unfold tsz at hn
  simp [Program.cellsOf, hn]
theorem chunks_eq {α : Type} {k n : Nat} {xs ys : List α} (hx : xs.length = n * k) (hy : ys.length = n * k) (h : ∀ i, i < n → (xs.drop (i * k)).take k = (ys.drop (i * k)).take k) : xs = ys := by
  apply List.ext_getElem?
  intro j
  by_cases hj : j < n * k
  · have hk : 0 < k := by
      rcases Nat.eq_zero_or_pos k with h0 | h0
      · subst h0; omega
      · exact h0
    have hi : j / k < n := by rw [Nat.div_lt_iff_lt_mul hk]; exact hj
    have h1 := congrArg (fun l : List α => l[j % k]?) (h _ hi)
    have hr : j % k < k := Nat.mod_lt _ hk
    simp only [List.getElem?_take_of_lt hr, List.getElem?_drop] at h1
    rwa [Nat.div_add_mod'] at h1
  · rw [List.getElem?_eq_none (by omega), List.getElem?_eq_none (by omega)]
theorem eqItems_flat {e : TypeId} {c n d : Nat} {xs ys : List Value} (hp : ∀ i, i < n → ∀ w : World, ∃ a b r, (part e xs.toArray (i * c)).run P w = .ok a w ∧ (part e ys.toArray (i * c)).run P w = .ok b w ∧ (Op.equalIn d e a b).run P w = .ok r w ∧ (r = true ↔ (xs.drop (i * c)).take c = (ys.drop (i * c)).take c)) :
    ∀ (is : List Nat), (∀ i ∈ is, i < n) → ∃ r, (Op.eqItems d e c xs.toArray ys.toArray is).run P w = .ok r w ∧ (r = true ↔ ∀ i ∈ is, (xs.drop (i * c)).take c = (ys.drop (i * c)).take c)
  | [], _ => ⟨true, by simp [Op.eqItems], by simp⟩
  | i :: is, h => by
    obtain ⟨a, b, r, h1, h2, h3, h4⟩ := hp i (h i (by simp)) w
    obtain ⟨r', h5, h6⟩ := eqItems_flat hp is fun j hj => h j (by simp [hj])
    cases r with
    | false =>
      refine ⟨false, by simp [Op.eqItems, h1, h2, h3], ?_⟩
      simp only [Bool.false_eq_true, false_iff]
      intro hh
      have := h4.2 (hh i (by simp))
      cases this
    | true =>
      refine ⟨r', by simpa [Op.eqItems, h1, h2, h3] using h5, ?_⟩
      rw [h6]
      simp only [List.mem_cons, forall_eq_or_imp]
      exact ⟨fun hh => ⟨h4.1 rfl, hh⟩, fun hh => hh.2⟩
theorem eqFields_flat {d : Nat} {xs ys : List Value} : ∀ (fs : List Field), (∀ f ∈ fs, f.name ≠ "_" ∧ ∀ w : World, ∃ a b r, (part f.type xs.toArray f.offset).run P w = .ok a w ∧ (part f.type ys.toArray f.offset).run P w = .ok b w ∧ (Op.equalIn d f.type a b).run P w = .ok r w ∧ (r = true ↔ (xs.drop f.offset).take (P.cellsOf f.type) = (ys.drop f.offset).take (P.cellsOf f.type))) →
    ∃ r, (Op.eqFields d xs.toArray ys.toArray fs).run P w = .ok r w ∧ (r = true ↔ ∀ f ∈ fs, (xs.drop f.offset).take (P.cellsOf f.type) = (ys.drop f.offset).take (P.cellsOf f.type))
  | [], _ => ⟨true, by simp [Op.eqFields], by simp⟩
  | f :: fs, h => by
    obtain ⟨hn, hf⟩ := h f (by simp)
    obtain ⟨a, b, r, h1, h2, h3, h4⟩ := hf w
    obtain ⟨r', h5, h6⟩ := eqFields_flat fs fun g hg => h g (by simp [hg])
    cases r with
    | false =>
      refine ⟨false, by simp [Op.eqFields, hn, h1, h2, h3], ?_⟩
      simp only [Bool.false_eq_true, false_iff]
      intro hh
      have := h4.2 (hh f (by simp))
      cases this
    | true =>
      refine ⟨r', by simpa [Op.eqFields, hn, h1, h2, h3] using h5, ?_⟩
      rw [h6]
      simp only [List.mem_cons, forall_eq_or_imp]
      exact ⟨fun hh => ⟨h4.1 rfl, hh⟩, fun hh => hh.2⟩
/-- A struct's form, field by field. -/
theorem form_fields {n g : Nat} {T : Nat} {xs : List Value} {p : Lf n → Value → Prop} : ∀ (fl : List Field) (ls : List (Lf n)),
    fl.foldr (fun f acc => match acc, form P n g f.type with
      | some l, some es => if es.length = P.cellsOf f.type ∧ f.offset + es.length + l.length = T then some (es ++ l) else none
      | _, _ => none) (some []) = some ls → xs.length = T → ls.length ≤ T → All2 p ls (xs.drop (T - ls.length)) →
    ∀ f ∈ fl, ∃ es, form P n g f.type = some es ∧ es.length = P.cellsOf f.type ∧ All2 p es ((xs.drop f.offset).take (P.cellsOf f.type)) ∧ T - ls.length ≤ f.offset ∧ f.offset + P.cellsOf f.type ≤ T
  | [], ls, _, _, _, _ => fun f hf => by cases hf
  | f :: fl, ls, h1, hx, hle, ha => by
    rw [List.foldr_cons] at h1
    split at h1
    · rename_i l es hl hes
      split at h1
      · rename_i hcc
        obtain rfl := Option.some.inj h1
        rw [List.length_append] at hle ha
        have e1 : f.offset = T - (es.length + l.length) := by omega
        rw [← e1] at ha
        obtain ⟨c, c', hc, ha1, ha2⟩ := All2.split ha
        have hl1 := ha1.len
        have hc1 : (xs.drop f.offset).take es.length = c := by rw [hc, hl1, List.take_left]
        have hc2 : xs.drop (T - l.length) = c' := by
          have : xs.drop (f.offset + es.length) = c' := by rw [← List.drop_drop, hc, hl1, List.drop_left]
          rwa [show f.offset + es.length = T - l.length by omega] at this
        intro f' hf'
        rcases List.mem_cons.1 hf' with rfl | hf'
        · exact ⟨es, hes, hcc.1, by rw [← hcc.1, hc1]; exact ha1, by rw [List.length_append]; omega, by omega⟩
        · obtain ⟨es', g1, g2, g3, g4, g5⟩ := form_fields fl l hl hx (by omega) (by rw [hc2]; exact ha2) f' hf'
          exact ⟨es', g1, g2, g3, by rw [List.length_append]; omega, g5⟩
      · cases h1
    · cases h1
theorem fields_cover {n g : Nat} {T : Nat} {xs ys : List Value} : ∀ (fl : List Field) (ls : List (Lf n)),
    fl.foldr (fun f acc => match acc, form P n g f.type with
      | some l, some es => if es.length = P.cellsOf f.type ∧ f.offset + es.length + l.length = T then some (es ++ l) else none
      | _, _ => none) (some []) = some ls → xs.length = T → ys.length = T → ls.length ≤ T → (∀ f ∈ fl, (xs.drop f.offset).take (P.cellsOf f.type) = (ys.drop f.offset).take (P.cellsOf f.type)) →
    xs.drop (T - ls.length) = ys.drop (T - ls.length)
  | [], ls, h1, hx, hy, _, _ => by
    obtain rfl := Option.some.inj h1
    rw [List.drop_eq_nil_of_le (by simp; omega), List.drop_eq_nil_of_le (by simp; omega)]
  | f :: fl, ls, h1, hx, hy, hle, h => by
    rw [List.foldr_cons] at h1
    split at h1
    · rename_i l es hl hes
      split at h1
      · rename_i hcc
        obtain rfl := Option.some.inj h1
        rw [List.length_append] at hle ⊢
        have e1 : T - (es.length + l.length) = f.offset := by omega
        rw [e1]
        have ih := fields_cover fl l hl hx hy (by omega) fun f' hf' => h f' (by simp [hf'])
        have h0 := h f (by simp)
        rw [← List.take_append_drop (P.cellsOf f.type) (xs.drop f.offset), ← List.take_append_drop (P.cellsOf f.type) (ys.drop f.offset), h0, List.drop_drop, List.drop_drop, show f.offset + P.cellsOf f.type = T - l.length by omega, ih]
      · cases h1
    · cases h1
theorem eq_flat : ∀ (g : Nat) (t : TypeId) (ls : List (Lf 0)) (xs ys : List Value) (d : Nat) (w : World), form P 0 g t = some ls → eqB P g t = true → All2 okf ls xs → All2 okf ls ys →
    ∃ b, (Op.equalIn (d + g) t (vof P t xs) (vof P t ys)).run P w = .ok b w ∧ (b = true ↔ xs = ys) := by
  intro g
  induction g with
  | zero => intro t ls xs ys d w h; cases h
  | succ g ih =>
    intro t ls xs ys d w h hE hx hy
    unfold eqB at hE
    have h' := h
    unfold form at h
    rw [show d + (g + 1) = (d + g) + 1 by omega]
    split at h
    · rename_i k ht
      obtain rfl := Option.some.inj h
      obtain ⟨x, rfl, hx1⟩ := All2.one hx
      obtain ⟨y, rfl, hy1⟩ := All2.one hy
      obtain ⟨a, rfl, _⟩ := (show okL0 (.i k) x from hx1)
      obtain ⟨b, rfl, _⟩ := (show okL0 (.i k) y from hy1)
      refine ⟨a == b, by simp [vof, ht, aggD, run_equalIn_int' ht], by simp⟩
    · rename_i ht
      obtain rfl := Option.some.inj h
      obtain ⟨x, rfl, hx1⟩ := All2.one hx
      obtain ⟨y, rfl, hy1⟩ := All2.one hy
      obtain ⟨a, rfl⟩ := (show okL0 .b x from hx1)
      obtain ⟨b, rfl⟩ := (show okL0 .b y from hy1)
      refine ⟨a == b, by simp [vof, ht, aggD, Op.equalIn, run_underlying ht], by simp⟩
    · rename_i ht; rw [ht] at hE; cases hE
    · cases h
    · rename_i n e ht
      rw [ht] at hE
      simp only [Bool.and_eq_true] at hE
      split at h
      · rename_i es he
        split at h
        · rename_i hc
          obtain rfl := Option.some.inj h
          have hlx := hx.len
          have hly := hy.len
          have hL : (List.replicate n es).flatten.length = n * es.length := by simp
          replace hlx := hL.symm.trans hlx
          replace hly := hL.symm.trans hly
          obtain ⟨De, hDe⟩ : ∃ D, P.underlying e = some D := by
            cases hD : P.underlying e with
            | some D => exact ⟨D, rfl⟩
            | none => cases g <;> simp [eqB, hD] at hE
          have hz := cellsOf_tsz hE.2
          have chunk : ∀ {zs : List Value}, All2 okf (List.replicate n es).flatten zs → ∀ i, i < n → All2 okf es ((zs.drop (i * es.length)).take es.length) := by
            intro zs hzs i hi
            have e1 : (List.replicate n es).flatten = (List.replicate i es).flatten ++ (es ++ (List.replicate (n - i - 1) es).flatten) := by
              rw [← List.flatten_cons, ← List.replicate_succ, ← List.flatten_append, List.replicate_append_replicate]
              congr 2
              omega
            rw [e1] at hzs
            obtain ⟨c, c', rfl, h1, h2⟩ := All2.split hzs
            obtain ⟨c1, c2, rfl, h3, h4⟩ := All2.split h2
            have hl1 := h1.len
            have hl3 := h3.len
            simp at hl1
            rw [hl1, List.drop_left, hl3, List.take_left]
            exact h3
          obtain ⟨ti, hti, _⟩ := Option.map_eq_some_iff.1 (show (P.info? e).map (·.size) = some (P.cellsOf e) from hz)
          have hrun := run_equalIn_array (P := P) w (d + g) (t := t) xs.toArray ys.toArray ht hti
          obtain ⟨r, hr1, hr2⟩ := eqItems_flat (P := P) (w := w) (e := e) (c := P.cellsOf e) (n := n) (d := d + g) (xs := xs) (ys := ys) (fun i hi w' => by
            have cx := chunk hx i hi
            have cy := chunk hy i hi
            rw [hc.1] at cx cy
            have h1 : aggD De = false → P.cellsOf e = 1 := fun hd => by rw [← hc.1]; exact form_len g e es De he hDe hd
            have p1 := run_part_flat (P := P) (w := w') hDe hz (cs := xs) (off := i * P.cellsOf e) rfl (by rw [← cx.len, hc.1]) h1
            have p2 := run_part_flat (P := P) (w := w') hDe hz (cs := ys) (off := i * P.cellsOf e) rfl (by rw [← cy.len, hc.1]) h1
            obtain ⟨b, hb1, hb2⟩ := ih e es _ _ d w' he hE.1 cx cy
            exact ⟨_, _, b, p1, p2, hb1, hb2⟩) (List.range n) (fun i hi => List.mem_range.1 hi)
          refine ⟨r, by rw [show vof P t xs = .agg xs.toArray by simp [vof, ht, aggD], show vof P t ys = .agg ys.toArray by simp [vof, ht, aggD], hrun, hr1], ?_⟩
          rw [hr2]
          constructor
          · intro hh
            exact chunks_eq (k := P.cellsOf e) (n := n) (by rw [← hlx, hc.1]) (by rw [← hly, hc.1]) fun i hi => hh i (List.mem_range.2 hi)
          · rintro rfl i _
            rfl
        · cases h
      · cases h
    · rename_i fs ht
      rw [ht] at hE
      simp only [Bool.and_eq_true, Bool.not_eq_true', List.all_eq_true, bne_iff_ne, ne_eq] at hE
      split at h
      · rename_i l hfold
        split at h
        · rename_i hlt
          obtain rfl := Option.some.inj h
          have hlx := hx.len
          have hly := hy.len
          have hfo : P.fieldsOf t = fs := by simp [Program.fieldsOf, ht]
          have hrun := run_equalIn_struct (P := P) w (d + g) t xs.toArray ys.toArray (by rw [hfo]; exact ht) hE.1
          rw [hfo] at hrun
          have fx := form_fields (P := P) (g := g) (T := P.cellsOf t) (xs := xs) (p := okf) fs.toList l hfold (by omega) (by omega) (by rw [hlt, Nat.sub_self, List.drop_zero]; exact hx)
          have fy := form_fields (P := P) (g := g) (T := P.cellsOf t) (xs := ys) (p := okf) fs.toList l hfold (by omega) (by omega) (by rw [hlt, Nat.sub_self, List.drop_zero]; exact hy)
          obtain ⟨r, hr1, hr2⟩ := eqFields_flat (P := P) (w := w) (d := d + g) (xs := xs) (ys := ys) fs.toList (fun f hf => by
            obtain ⟨⟨hn, he⟩, hz0⟩ := hE.2 f hf
            refine ⟨hn, fun w' => ?_⟩
            obtain ⟨es, g1, g2, g3, _, _⟩ := fx f hf
            obtain ⟨es', g1', _, g3', _, _⟩ := fy f hf
            obtain rfl : es = es' := Option.some.inj (g1.symm.trans g1')
            obtain ⟨De, hDe⟩ : ∃ D, P.underlying f.type = some D := by
              cases hD : P.underlying f.type with
              | some D => exact ⟨D, rfl⟩
              | none => cases g <;> simp [eqB, hD] at he
            have hz := cellsOf_tsz hz0
            have h1 : aggD De = false → P.cellsOf f.type = 1 := fun hd => by rw [← g2]; exact form_len g f.type es De g1 hDe hd
            have p1 := run_part_flat (P := P) (w := w') hDe hz (cs := xs) (off := f.offset) rfl (by rw [← g3.len, g2]) h1
            have p2 := run_part_flat (P := P) (w := w') hDe hz (cs := ys) (off := f.offset) rfl (by rw [← g3'.len, g2]) h1
            obtain ⟨b, hb1, hb2⟩ := ih f.type es _ _ d w' g1 he g3 g3'
            exact ⟨_, _, b, p1, p2, hb1, hb2⟩)
          refine ⟨r, by rw [show vof P t xs = .agg xs.toArray by simp [vof, ht, aggD], show vof P t ys = .agg ys.toArray by simp [vof, ht, aggD], hrun, hr1], ?_⟩
          rw [hr2]
          constructor
          · intro hh
            have := fields_cover (P := P) (g := g) (T := P.cellsOf t) (xs := xs) (ys := ys) fs.toList l hfold (by omega) (by omega) (by omega) hh
            rwa [hlt, Nat.sub_self, List.drop_zero, List.drop_zero] at this
          · rintro rfl f _
            rfl
        · cases h
      · cases h
    · cases h
end
section
variable {P : Program} {fr : Fr} {o : Oper} {t ty : TypeId} {x y : Operand}
theorem run_equal_flat {g : Nat} {ls : List (Lf 0)} {xs ys : List Value} (hf : form P 0 g t = some ls) (hE : eqB P g t = true) (hg : g ≤ 10000) (ht : (∃ fs, P.underlying t = some (.struct fs)) ∨ ∃ k e, P.underlying t = some (.array k e)) (hx : All2 okf ls xs) (hy : All2 okf ls ys) (w : World) :
    ∃ b, (Op.equal t (.agg xs.toArray) (.agg ys.toArray)).run P w = .ok b w ∧ (b = true ↔ xs = ys) := by
  obtain ⟨b, h1, h2⟩ := eq_flat g t ls xs ys (10000 - g) w hf hE hx hy
  have e : ∀ zs : List Value, vof P t zs = .agg zs.toArray := fun zs => by
    rcases ht with ⟨fs, ht⟩ | ⟨k, e, ht⟩ <;> simp [vof, ht, aggD]
  rw [show 10000 - g + g = 10000 by omega, e, e] at h1
  exact ⟨b, h1, h2⟩
/-- == of two structs (arrays) without addresses. -/
theorem P_eql_flat {g : Nat} {ls : List (Lf 0)} {xs ys : List Value} {b : Bool} (hb : b = true ↔ xs = ys) (ho : o.op = .binOp .eql t x y ty) (hf : form P 0 g t = some ls) (hE : eqB P g t = true) (hg : g ≤ 10000) (ht : (∃ fs, P.underlying t = some (.struct fs)) ∨ ∃ k e, P.underlying t = some (.array k e)) (hgd : P.eqGuardType P.depth t = false)
    (hx : fr.ev x = some (.agg xs.toArray)) (hy : fr.ev y = some (.agg ys.toArray)) (h1 : All2 okf ls xs) (h2 : All2 okf ls ys) : PStep P fr o (.bool b) := by
  intro a ha w
  obtain ⟨b', h, hb'⟩ := run_equal_flat hf hE hg ht h1 h2 w
  obtain rfl : b' = b := by rw [Bool.eq_iff_iff, hb', hb]
  unfold execOp
  simp [ho, ha.ev hx, ha.ev hy, eqGuard, binOp, h, program, hgd, Sem.run]
theorem P_neq_flat {g : Nat} {ls : List (Lf 0)} {xs ys : List Value} {b : Bool} (hb : b = true ↔ xs = ys) (ho : o.op = .binOp .neq t x y ty) (hf : form P 0 g t = some ls) (hE : eqB P g t = true) (hg : g ≤ 10000) (ht : (∃ fs, P.underlying t = some (.struct fs)) ∨ ∃ k e, P.underlying t = some (.array k e)) (hgd : P.eqGuardType P.depth t = false)
    (hx : fr.ev x = some (.agg xs.toArray)) (hy : fr.ev y = some (.agg ys.toArray)) (h1 : All2 okf ls xs) (h2 : All2 okf ls ys) : PStep P fr o (.bool (!b)) := by
  intro a ha w
  obtain ⟨b', h, hb'⟩ := run_equal_flat hf hE hg ht h1 h2 w
  obtain rfl : b' = b := by rw [Bool.eq_iff_iff, hb', hb]
  unfold execOp
  simp [ho, ha.ev hx, ha.ev hy, eqGuard, binOp, h, program, hgd, Sem.run]
/-- Words are such cells. -/
theorem ok_words {k : IntKind} {n : Nat} (hk : UK k n) : ∀ (l : List (BitVec n)), All2 okf (List.replicate l.length (lit0 0 (.i k))) (l.map fun b => Value.int k (b.toNat : Int))
  | [] => trivial
  | x :: l => ⟨⟨_, rfl, by cases hk <;> (have := x.isLt; simp [Lit.wf, IntKind.min, IntKind.max, IntKind.signed, IntKind.bits]; omega)⟩, ok_words hk l⟩
/-- A part of a struct is filled in. -/
theorem fold_splice {α : Type} (off : Nat) : ∀ (vs : List α) (j : Nat) (cs : Array α), off + j + vs.length ≤ cs.size →
    ((vs.toArray.zipIdx j).foldl (fun cs (x : α × Nat) => cs.setIfInBounds (off + x.2) x.1) cs).toList = splice cs.toList (off + j) vs
  | [], j, cs, _ => by
    rw [splice_nil, show (([] : List α).toArray.zipIdx j) = #[] by apply Array.ext'; simp]
    rfl
  | v :: vs, j, cs, h => by
    have hz : ((v :: vs).toArray.zipIdx j).toList = (v, j) :: (vs.toArray.zipIdx (j + 1)).toList := by simp
    have e : ∀ (l : Array (α × Nat)) (c : Array α), (l.foldl (fun cs (x : α × Nat) => cs.setIfInBounds (off + x.2) x.1) c) = l.toList.foldl (fun cs (x : α × Nat) => cs.setIfInBounds (off + x.2) x.1) c := fun l c => by rw [Array.foldl_toList]
    rw [e, hz, List.foldl_cons, ← e, fold_splice off vs (j + 1) _ (by simp at h ⊢; omega)]
    rw [Array.toList_setIfInBounds, show off + (j + 1) = (off + j) + 1 by omega, splice_cons _ _ _ _ (by simp at h ⊢; omega)]
theorem fill_splice {place : Nat → Option (Nat × Nat)} {i off n : Nat} {v : Value} {cs : Array Value} {rest : List (Nat × Value)} {r : Array Value} {vs : List Value} (hp : place i = some (off, n)) (hv : v.cells = vs.toArray) (hn : vs.length = n) (hl : off + n ≤ cs.size) (h : Instr.fill place (splice cs.toList off vs).toArray rest = some r) :
    Instr.fill place cs ((i, v) :: rest) = some r := by
  have h1 := fold_splice off vs 0 cs (by omega)
  unfold Instr.fill
  rw [hp, hv]
  simp only [List.size_toArray, hn]
  rw [if_neg (by simp; omega)]
  have e : (vs.toArray.zipIdx.foldl (fun cs (x : Value × Nat) => cs.setIfInBounds (off + x.2) x.1) cs) = (splice cs.toList off vs).toArray := by
    apply Array.ext'
    simpa using h1
  rw [← h, ← e]
theorem fill_nil {place : Nat → Option (Nat × Nat)} {cs : Array Value} {l : List Value} (h : cs.toList = l) : Instr.fill place cs [] = some l.toArray := by subst h; rfl
/-- A field of a struct's value. -/
theorem P_fieldA {fs : Array Field} {i off n : Nat} {f : Field} {cs xs : List Value} {D : TypeDesc} (ho : o.op = .field t x i) (ht : P.underlying t = some (.struct fs)) (hf : fs[i]? = some f) (hoff : f.offset = off) (hD : P.underlying f.type = some D) (hz : tsz P f.type = some n) (hx : fr.ev x = some (.agg cs.toArray)) (hc : (cs.drop off).take n = xs) (hn : xs.length = n) (h1 : aggD D = false → n = 1) : PStep P fr o (vof P f.type xs) := by
  intro a ha w
  have := run_part_flat (P := P) (w := w) hD hz hc hn h1
  unfold execOp
  subst hoff
  simp [ho, ha.ev hx, Instr.field, run_underlying ht, hf, asAgg, this]
end
end SE
end Go
