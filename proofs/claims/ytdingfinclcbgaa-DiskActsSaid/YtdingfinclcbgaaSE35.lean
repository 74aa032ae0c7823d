/- Families of rows: row i under the label b + 16 * i, for the i that D allows. -/
import Derived.Test.YtdingfinclcbgaaSE34
namespace Go
namespace SE
open Go.RowKit
set_option linter.unusedVariables false
set_option linter.unusedSimpArgs false
structure Fam where
  b : Nat
  D : Nat → Bool
  F : Nat → Row
def lf (b i : Nat) : Nat := b + 16 * i
/-- Is the label one of the family's? -/
def Fam.has (f : Fam) (k : Nat) : Bool := Nat.ble f.b k && Nat.beq ((k - f.b) % 16) 0 && f.D ((k - f.b) / 16)
def famsOf (H : Hp) : List Fam → Hp
  | [] => H
  | f :: l => fun k => match f.has k with
    | true => some (f.F ((k - f.b) / 16))
    | false => famsOf H l k
def dlt (m i : Nat) : Bool := Nat.blt i m
def dbut (m j i : Nat) : Bool := Nat.blt i m && !Nat.beq i j
theorem beq_f (i j : Nat) : (Nat.beq i j = false) = ¬ (i = j) := propext ⟨fun h => bne h, fun h => bnf h⟩
theorem dlt_iff {m i : Nat} : dlt m i = true ↔ i < m := by simp [dlt]
theorem dbut_iff {m j i : Nat} : dbut m j i = true ↔ i < m ∧ i ≠ j := by simp [dbut, beq_f]
theorem lf_idx (b i : Nat) : (lf b i - b) / 16 = i := by unfold lf; omega
theorem lf_inj {b i j : Nat} (h : lf b i = lf b j) : i = j := by unfold lf at h; omega
theorem has_lf (f : Fam) (i : Nat) : f.has (lf f.b i) = f.D i := by
  unfold Fam.has
  rw [lf_idx, Nat.ble_eq_true_of_le (show f.b ≤ lf f.b i by unfold lf; omega)]
  have : (lf f.b i - f.b) % 16 = 0 := by unfold lf; omega
  rw [this]
  rfl
theorem has_some {f : Fam} {k : Nat} (h : f.has k = true) : ∃ i, k = lf f.b i ∧ f.D i = true := by
  unfold Fam.has at h
  simp only [Bool.and_eq_true, Nat.ble_eq, Nat.beq_eq] at h
  refine ⟨(k - f.b) / 16, ?_, h.2⟩
  unfold lf
  omega
theorem has_low {f : Fam} {k : Nat} (h : Nat.blt k f.b = true) : f.has k = false := by
  cases hh : f.has k with
  | false => rfl
  | true =>
    obtain ⟨i, rfl, _⟩ := has_some hh
    simp only [Nat.blt_eq] at h
    unfold lf at h
    omega
theorem hOf_mem {k : Nat} {r : Row} : ∀ {m : List (Nat × Row)}, hOf m k = some r → ∃ p ∈ m, p.1 = k
  | [], h => nomatch h
  | (k0, r0) :: m, h => by
    cases hb : Nat.beq k k0 with
    | true => exact ⟨_, List.mem_cons_self, (Nat.eq_of_beq_eq_true hb).symm⟩
    | false =>
      have h1 : (match Nat.beq k k0 with | true => some r0 | false => hOf m k) = some r := h
      rw [hb] at h1
      obtain ⟨p, hp, e⟩ := hOf_mem h1
      exact ⟨p, List.mem_cons_of_mem _ hp, e⟩
/-- The family's rows are there. -/
def FamOk (H : Hp) (f : Fam) : Prop := ∀ i, f.D i = true → H (lf f.b i) = some (f.F i)
theorem FamOk.hd {H : Hp} {f : Fam} {l : List Fam} : FamOk (famsOf H (f :: l)) f := fun i hi => by
  show (match f.has (lf f.b i) with | true => some (f.F ((lf f.b i - f.b) / 16)) | false => _) = _
  rw [has_lf, hi, lf_idx]
theorem FamOk.tl {H : Hp} {f g : Fam} {l : List Fam} (hb : (Nat.ble f.b (g.b + 15) && Nat.ble g.b (f.b + 15) && !Nat.beq f.b g.b) = true) (h : FamOk (famsOf H l) f) : FamOk (famsOf H (g :: l)) f := fun i hi => by
  have hn : g.has (lf f.b i) = false := by
    cases hh : g.has (lf f.b i) with
    | false => rfl
    | true =>
      obtain ⟨j, hj, _⟩ := has_some hh
      simp [beq_f] at hb
      unfold lf at hj
      omega
  show (match g.has (lf f.b i) with | true => some (g.F ((lf f.b i - g.b) / 16)) | false => famsOf H l (lf f.b i)) = _
  rw [hn]
  exact h i hi
theorem FamOk.set {H : Hp} {f : Fam} {k : Nat} {r : Row} (hk : Nat.blt k f.b = true) (h : FamOk H f) : FamOk (H.set k r) f := fun i hi => by
  rw [Hp.set_ne]
  · exact h i hi
  · simp only [Nat.blt_eq] at hk
    unfold lf
    omega
theorem FamOk.del {H : Hp} {f : Fam} {k : Nat} (hk : Nat.blt k f.b = true) (h : FamOk H f) : FamOk (H.del k) f := fun i hi => by
  unfold Hp.del
  have : Nat.beq (lf f.b i) k = false := bnf (by simp only [Nat.blt_eq] at hk; unfold lf; omega)
  rw [this]
  exact h i hi
theorem FamOk.nil {H : Hp} {b : Nat} {D : Nat → Bool} {F : Nat → Row} (h : ∀ i, D i = false) : FamOk H ⟨b, D, F⟩ := fun i hi => by
  have hi : D i = true := hi
  rw [h i] at hi
  cases hi
theorem FamOk.congr {H : Hp} {b : Nat} {D D' : Nat → Bool} {F F' : Nat → Row} (h : FamOk H ⟨b, D, F⟩) (hF : ∀ i, D' i = true → D i = true ∧ F' i = F i) : FamOk H ⟨b, D', F'⟩ := fun i hi => by
  have h1 := h i (hF i hi).1
  show H (lf b i) = some (F' i)
  rw [(hF i hi).2]
  exact h1
def ksLow (b : Nat) (ks : List OK) : Bool := ks.all fun k => match k with
  | .al lab _ _ => Nat.blt lab b
  | .st lab _ _ _ _ => Nat.blt lab b
  | _ => true
theorem hovr_high {A : Nat → Nat} {H : Hp} {b k : Nat} (hb : b ≤ k) : ∀ {ks : List OK}, ksLow b ks = true → hovr A ks H k = H k := by
  intro ks hl
  have h1 : stR A k ks = none := by
    cases hh : stR A k ks with
    | none => rfl
    | some r =>
      obtain ⟨j, b0, ty, cs, rest, h2, h3, _⟩ := stR_some hh
      have h4 := List.all_eq_true.1 hl (ks.getD j default) (by rw [List.getD_eq_getElem?_getD, List.getElem?_eq_getElem h2]; exact List.getElem_mem h2)
      rw [h3] at h4
      simp at h4
      omega
  have h2 : alR A k ks = none := by
    cases hh : alR A k ks with
    | none => rfl
    | some r =>
      obtain ⟨j, ty, cs, h2, h3, _⟩ := alR_some hh
      have h4 := List.all_eq_true.1 hl (ks.getD j default) (by rw [List.getD_eq_getElem?_getD, List.getElem?_eq_getElem h2]; exact List.getElem_mem h2)
      rw [h3] at h4
      simp at h4
      omega
  unfold hovr
  rw [h1, h2]
theorem FamOk.hovr {H : Hp} {f : Fam} {A : Nat → Nat} {ks : List OK} (hl : ksLow f.b ks = true) (h : FamOk H f) : FamOk (hovr A ks H) f := fun i hi => by
  rw [hovr_high (show f.b ≤ lf f.b i by unfold lf; omega) hl]
  exact h i hi
theorem FamOk.swap {H : Hp} {f : Fam} {i j : Nat} (hi : Nat.blt i f.b = true) (hj : Nat.blt j f.b = true) (h : FamOk H f) : FamOk (fun k => H (if k = i then j else if k = j then i else k)) f := fun q hq => by
  simp only [Nat.blt_eq] at hi hj
  have h1 : lf f.b q ≠ i := by unfold lf; omega
  have h2 : lf f.b q ≠ j := by unfold lf; omega
  show H (if lf f.b q = i then j else if lf f.b q = j then i else lf f.b q) = _
  rw [if_neg h1, if_neg h2]
  exact h q hq
theorem FamOk.emp {H : Hp} {f : Fam} (h : FamOk H f) : FamOk (famsOf H []) f := h
theorem FK {H : Hp} {f : Fam} (h : FamOk H f := by repeat (first | assumption | exact FamOk.hd | refine FamOk.set rfl ?_ | refine FamOk.del rfl ?_ | refine FamOk.tl rfl ?_ | refine FamOk.emp ?_ | refine FamOk.hovr (by kernel_rfl) ?_ | refine FamOk.swap rfl rfl ?_)) : FamOk H f := h
theorem famsOf_some {H : Hp} {k : Nat} {r : Row} : ∀ {l : List Fam}, famsOf H l k = some r → (∃ f ∈ l, ∃ i, f.D i = true ∧ k = lf f.b i ∧ r = f.F i) ∨ (∀ f ∈ l, f.has k = false) ∧ H k = some r
  | [], h => Or.inr ⟨fun _ hf => (by cases hf), h⟩
  | f :: l, h => by
    cases hh : f.has k with
    | true =>
      have h1 : famsOf H (f :: l) k = some (f.F ((k - f.b) / 16)) := by
        show (match f.has k with | true => _ | false => _) = _
        rw [hh]
      rw [h1] at h
      obtain ⟨i, rfl, hi⟩ := has_some hh
      rw [lf_idx] at h
      exact Or.inl ⟨f, List.mem_cons_self, i, hi, rfl, (Option.some.inj h).symm⟩
    | false =>
      have h1 : famsOf H (f :: l) k = famsOf H l k := by
        show (match f.has k with | true => _ | false => _) = _
        rw [hh]
      rw [h1] at h
      rcases famsOf_some h with ⟨g, hg, i, h2⟩ | ⟨h2, h3⟩
      · exact Or.inl ⟨g, List.mem_cons_of_mem _ hg, i, h2⟩
      · refine Or.inr ⟨fun g hg => ?_, h3⟩
        rcases List.mem_cons.1 hg with rfl | hg
        · exact hh
        · exact h2 g hg
theorem famsOf_low {H : Hp} {k : Nat} : ∀ {l : List Fam}, (∀ f ∈ l, f.has k = false) → famsOf H l k = H k
  | [], _ => rfl
  | f :: l, h => by
    show (match f.has k with | true => _ | false => _) = _
    rw [h f List.mem_cons_self]
    exact famsOf_low fun g hg => h g (List.mem_cons_of_mem _ hg)
def LowK (b k : Nat) (p : Nat × Row) : Prop := (Nat.blt p.1 b && !Nat.beq p.1 k) = true
def FarF (b k : Nat) (f : Fam) : Prop := (Nat.ble f.b (b + 15) && Nat.ble b (f.b + 15) && !Nat.beq f.b b && Nat.blt k f.b) = true
section
variable {E : Env} {fr : Fr} {H : Hp}
/-- Less is known, the families stay. -/
theorem At.toM {T : Act → World → Prop} (l : List (Nat × Value)) (m : List (Nat × Row)) (fs : List Fam) (hf : AllL (fun p => fr p.1 = some p.2) l) (hH : AllL (fun p => H p.1 = some p.2) m) (hF : AllL (FamOk H) fs) (h : At E (frOf l) (famsOf (hOf m) fs) T) : At E fr H T :=
  h.weak (frOf_le hf.mem) fun k r hk => by
    rcases famsOf_some hk with ⟨f, hf, i, hi, rfl, rfl⟩ | ⟨_, h2⟩
    · exact hF.mem f hf i hi
    · exact hOf_le hH.mem k r h2
/-- Other labels. -/
theorem At.ren {T : Act → World → Prop} {H' : Hp} (σ : Nat → Nat) (hs : ∀ k r, H' k = some r → H (σ k) = some r) (hi : ∀ k k' r r', H' k = some r → H' k' = some r' → σ k = σ k' → k = k') (h : At E fr H' T) : At E fr H T :=
  fun a w R => h a w ⟨R.df, R.size, R.fr, R.chg, ⟨fun k r hk => R.heap.row _ r (hs k r hk), fun k k' r r' hk hk' ho ho' hne hz hz' => R.heap.apart _ _ r r' (hs k r hk) (hs k' r' hk') ho ho' (fun e => hne (hi k k' r r' hk hk' e)) hz hz'⟩⟩
/-- A row goes to a family (the first one): under the number j. -/
theorem At.famPut {T : Act → World → Prop} {b k j : Nat} {D D' : Nat → Bool} {F F' : Nat → Row} {r : Row} {m : List (Nat × Row)} {fs : List Fam} (hk : AllL (LowK b k) m) (hkb : Nat.blt k b = true) (hfs : AllL (FarF b k) fs)
    (hF : ∀ i, D' i = true → i ≠ j → D i = true ∧ F' i = F i) (hr : F' j = r) (h : At E fr (famsOf (hOf m) (⟨b, D', F'⟩ :: fs)) T) : At E fr (famsOf (hOf ((k, r) :: m)) (⟨b, D, F⟩ :: fs)) T := by
  have hmem : ∀ k1 r1, hOf m k1 = some r1 → k1 < b ∧ k1 ≠ k := fun k1 r1 h1 => by
    obtain ⟨p, hp, rfl⟩ := hOf_mem h1
    have := hk.mem p hp
    simp [LowK, beq_f] at this
    exact this
  have hkb' : k < b := by simpa using hkb
  have hfs' : ∀ f ∈ fs, (∀ i j, lf f.b i ≠ lf b j) ∧ k < f.b := fun f hf => by
    have := hfs.mem f hf
    simp [FarF, beq_f] at this
    refine ⟨fun i j => ?_, this.2⟩
    unfold lf
    omega
  have hlow : ∀ f ∈ (⟨b, D, F⟩ : Fam) :: fs, f.has k = false := fun f hf => has_low (by
    rcases List.mem_cons.1 hf with rfl | hf
    · exact hkb
    · simpa using (hfs' f hf).2)
  have hatk : famsOf (hOf ((k, r) :: m)) (⟨b, D, F⟩ :: fs) k = some r := by
    rw [famsOf_low hlow]
    unfold hOf
    simp
  -- what the new map tells
  have key : ∀ k1 r1, famsOf (hOf m) (⟨b, D', F'⟩ :: fs) k1 = some r1 → (k1 = lf b j ∧ r1 = r) ∨ (k1 ≠ lf b j ∧ k1 ≠ k ∧ famsOf (hOf ((k, r) :: m)) (⟨b, D, F⟩ :: fs) k1 = some r1) := fun k1 r1 h1 => by
    rcases famsOf_some h1 with ⟨f, hf, i, hi, rfl, rfl⟩ | ⟨h2, h3⟩
    · rcases List.mem_cons.1 hf with rfl | hf
      · by_cases e : i = j
        · subst e
          exact Or.inl ⟨rfl, hr⟩
        · obtain ⟨g1, g2⟩ := hF i hi e
          refine Or.inr ⟨fun hh => e (lf_inj hh), fun hh => ?_, ?_⟩
          · have : lf b i = k := hh
            unfold lf at this
            omega
          · have := FamOk.hd (H := hOf ((k, r) :: m)) (f := ⟨b, D, F⟩) (l := fs) i g1
            show famsOf _ _ (lf b i) = some (F' i)
            rw [g2]
            exact this
      · refine Or.inr ⟨(hfs' f hf).1 i j, fun hh => ?_, ?_⟩
        · have := (hfs' f hf).2
          unfold lf at hh
          omega
        · have hn : ∀ D0 F0, (⟨b, D0, F0⟩ : Fam).has (lf f.b i) = false := fun D0 F0 => by
            cases hh : (⟨b, D0, F0⟩ : Fam).has (lf f.b i) with
            | false => rfl
            | true =>
              obtain ⟨j2, hj, _⟩ := has_some hh
              exact absurd hj ((hfs' f hf).1 i j2)
          have hcut : ∀ (D0 : Nat → Bool) (F0 : Nat → Row) (H0 : Hp), famsOf H0 (⟨b, D0, F0⟩ :: fs) (lf f.b i) = famsOf H0 fs (lf f.b i) := fun D0 F0 H0 => by
            show (match (⟨b, D0, F0⟩ : Fam).has (lf f.b i) with | true => _ | false => _) = _
            rw [hn D0 F0]
          rw [hcut] at h1 ⊢
          have hne : lf f.b i ≠ k := by
            have := (hfs' f hf).2
            unfold lf
            omega
          rcases famsOf_some h1 with ⟨f2, hf2, i2, hi2, he2, hr2⟩ | ⟨h4, h5⟩
          · -- the same place in both
            have go : ∀ (l : List Fam), famsOf (hOf m) l (lf f.b i) = some (f.F i) → famsOf (hOf ((k, r) :: m)) l (lf f.b i) = some (f.F i) := fun l => by
              induction l with
              | nil =>
                intro h6
                show hOf ((k, r) :: m) (lf f.b i) = _
                unfold hOf
                rw [bnf hne]
                exact h6
              | cons g l ih =>
                intro h6
                cases hh : g.has (lf f.b i) with
                | true =>
                  have e1 : ∀ H0 : Hp, famsOf H0 (g :: l) (lf f.b i) = some (g.F ((lf f.b i - g.b) / 16)) := fun H0 => by
                    show (match g.has (lf f.b i) with | true => _ | false => _) = _
                    rw [hh]
                  rw [e1] at h6 ⊢
                  exact h6
                | false =>
                  have e1 : ∀ H0 : Hp, famsOf H0 (g :: l) (lf f.b i) = famsOf H0 l (lf f.b i) := fun H0 => by
                    show (match g.has (lf f.b i) with | true => _ | false => _) = _
                    rw [hh]
                  rw [e1] at h6 ⊢
                  exact ih h6
            exact go fs h1
          · have := hmem _ _ h5
            have h7 : f.has (lf f.b i) = true := by rw [has_lf]; exact hi
            rw [h4 f hf] at h7
            cases h7
    · obtain ⟨g1, g2⟩ := hmem k1 r1 h3
      refine Or.inr ⟨fun hh => ?_, g2, ?_⟩
      · unfold lf at hh
        omega
      · rw [famsOf_low]
        · unfold hOf
          rw [bnf g2]
          exact h3
        · intro f hf
          rcases List.mem_cons.1 hf with rfl | hf
          · exact has_low (by simpa using g1)
          · exact h2 f (List.mem_cons_of_mem _ hf)
  refine At.ren (fun k1 => if k1 = lf b j then k else k1) (fun k1 r1 h1 => ?_) (fun k1 k2 r1 r2 h1 h2 he => ?_) h
  · rcases key k1 r1 h1 with ⟨e1, e2⟩ | ⟨e1, _, e3⟩
    · show famsOf _ _ (if k1 = lf b j then k else k1) = _
      rw [if_pos e1, e2]
      exact hatk
    · show famsOf _ _ (if k1 = lf b j then k else k1) = _
      rw [if_neg e1]
      exact e3
  · rcases key k1 r1 h1 with ⟨e1, _⟩ | ⟨e1, e2, _⟩ <;> rcases key k2 r2 h2 with ⟨e3, _⟩ | ⟨e3, e4, _⟩
    · rw [e1, e3]
    · rw [if_pos e1, if_neg e3] at he
      exact absurd he.symm e4
    · rw [if_neg e1, if_pos e3] at he
      exact absurd he e2
    · rw [if_neg e1, if_neg e3] at he
      exact he
/-- A family's row under a label of its own. -/
theorem At.famTake {T : Act → World → Prop} {b j : Nat} {D : Nat → Bool} {F : Nat → Row} {m : List (Nat × Row)} {fs : List Fam} (k : Nat) (r : Row) (hk : AllL (LowK b k) m) (hkb : Nat.blt k b = true) (hfs : AllL (FarF b k) fs)
    (hj : D j = true) (hr : F j = r) (D' : Nat → Bool) (hD : ∀ i, D' i = true → D i = true ∧ i ≠ j) (h : At E fr (famsOf (hOf ((k, r) :: m)) (⟨b, D', F⟩ :: fs)) T) : At E fr (famsOf (hOf m) (⟨b, D, F⟩ :: fs)) T := by
  have hkb' : k < b := by simpa using hkb
  have hfs' : ∀ f ∈ fs, (∀ i j, lf f.b i ≠ lf b j) ∧ k < f.b := fun f hf => by
    have := hfs.mem f hf
    simp [FarF, beq_f] at this
    refine ⟨fun i j => ?_, this.2⟩
    unfold lf
    omega
  have hold : ∀ (l : List Fam) (k1 : Nat) (r1 : Row), k1 ≠ k → famsOf (hOf ((k, r) :: m)) l k1 = some r1 → famsOf (hOf m) l k1 = some r1 := fun l k1 r1 hne => by
    induction l with
    | nil =>
      intro h6
      have h6 : hOf ((k, r) :: m) k1 = some r1 := h6
      unfold hOf at h6
      rw [bnf hne] at h6
      exact h6
    | cons g l ih =>
      intro h6
      cases hh : g.has k1 with
      | true =>
        have e1 : ∀ H0 : Hp, famsOf H0 (g :: l) k1 = some (g.F ((k1 - g.b) / 16)) := fun H0 => by
          show (match g.has k1 with | true => _ | false => _) = _
          rw [hh]
        rw [e1] at h6 ⊢
        exact h6
      | false =>
        have e1 : ∀ H0 : Hp, famsOf H0 (g :: l) k1 = famsOf H0 l k1 := fun H0 => by
          show (match g.has k1 with | true => _ | false => _) = _
          rw [hh]
        rw [e1] at h6 ⊢
        exact ih h6
  have key : ∀ k1 r1, famsOf (hOf ((k, r) :: m)) (⟨b, D', F⟩ :: fs) k1 = some r1 → (k1 = k ∧ r1 = r) ∨ (k1 ≠ k ∧ k1 ≠ lf b j ∧ famsOf (hOf m) (⟨b, D, F⟩ :: fs) k1 = some r1) := fun k1 r1 h1 => by
    by_cases e : k1 = k
    · subst e
      left
      refine ⟨rfl, ?_⟩
      rw [famsOf_low (fun f hf => has_low (by
        rcases List.mem_cons.1 hf with rfl | hf
        · exact hkb
        · simpa using (hfs' f hf).2))] at h1
      unfold hOf at h1
      rw [Nat.beq_refl] at h1
      exact (Option.some.inj h1).symm
    · right
      have h2 := hold _ _ _ e h1
      refine ⟨e, ?_, ?_⟩
      · rintro rfl
        rcases famsOf_some h1 with ⟨f, hf, i, hi, he, _⟩ | ⟨_, h3⟩
        · rcases List.mem_cons.1 hf with rfl | hf
          · exact (hD i hi).2 (lf_inj he).symm
          · exact (hfs' f hf).1 i j he.symm
        · obtain ⟨p, hp, he⟩ := hOf_mem h3
          have hp : p ∈ m := by
            rcases List.mem_cons.1 hp with rfl | hp
            · exact absurd he.symm e
            · exact hp
          have := hk.mem p hp
          simp [LowK, beq_f] at this
          rw [he] at this
          unfold lf at this
          omega
      · show (match (⟨b, D, F⟩ : Fam).has k1 with | true => some (F ((k1 - b) / 16)) | false => famsOf (hOf m) fs k1) = _
        have h3 : (match (⟨b, D', F⟩ : Fam).has k1 with | true => some (F ((k1 - b) / 16)) | false => famsOf (hOf m) fs k1) = some r1 := h2
        cases hh : (⟨b, D', F⟩ : Fam).has k1 with
        | true =>
          obtain ⟨i, rfl, hi⟩ := has_some hh
          have h4 : (⟨b, D, F⟩ : Fam).has (lf b i) = true := (has_lf ⟨b, D, F⟩ i).trans (hD i hi).1
          rw [hh] at h3
          rw [h4]
          exact h3
        | false =>
          rw [hh] at h3
          cases hh2 : (⟨b, D, F⟩ : Fam).has k1 with
          | false => exact h3
          | true =>
            exfalso
            obtain ⟨i, rfl, hi⟩ := has_some hh2
            rcases famsOf_some h3 with ⟨f, hf, i2, _, he, _⟩ | ⟨_, h5⟩
            · exact (hfs' f hf).1 i2 i he.symm
            · obtain ⟨p, hp, he⟩ := hOf_mem h5
              have he : p.1 = lf b i := he
              have := hk.mem p hp
              simp [LowK, beq_f] at this
              rw [he] at this
              unfold lf at this
              omega
  refine At.ren (fun k1 => if k1 = k then lf b j else k1) (fun k1 r1 h1 => ?_) (fun k1 k2 r1 r2 h1 h2 he => ?_) h
  · rcases key k1 r1 h1 with ⟨e1, e2⟩ | ⟨e1, _, e3⟩
    · show famsOf _ _ (if k1 = k then lf b j else k1) = _
      rw [if_pos e1, e2, ← hr]
      exact FamOk.hd (H := hOf m) (f := ⟨b, D, F⟩) (l := fs) j hj
    · show famsOf _ _ (if k1 = k then lf b j else k1) = _
      rw [if_neg e1]
      exact e3
  · rcases key k1 r1 h1 with ⟨e1, _⟩ | ⟨e1, e2, _⟩ <;> rcases key k2 r2 h2 with ⟨e3, _⟩ | ⟨e3, e4, _⟩
    · rw [e1, e3]
    · rw [if_pos e1, if_neg e3] at he
      exact absurd he.symm e4
    · rw [if_neg e1, if_pos e3] at he
      exact absurd he e2
    · rw [if_neg e1, if_neg e3] at he
      exact he
theorem At.intoF {T : Act → World → Prop} {l : List (Nat × Value)} {m : List (Nat × Row)} {fs : List Fam} (h : At E (frOf l) (famsOf (hOf m) fs) T) (hf : l.map (fun p => fr p.1) = l.map (fun p => some p.2)) (hH : m.map (fun p => H p.1) = m.map (fun p => some p.2)) (hF : AllL (FamOk H) fs) : At E fr H T :=
  h.weak (frOf_le fun p hp => List.map_inj_left.1 hf p hp) fun k r hk => by
    rcases famsOf_some hk with ⟨f, hf, i, hi, rfl, rfl⟩ | ⟨_, h2⟩
    · exact hF.mem f hf i hi
    · exact hOf_le (fun p hp => List.map_inj_left.1 hH p hp) k r h2
/-- One family more. -/
theorem At.famNew {T : Act → World → Prop} {m : List (Nat × Row)} {fs : List Fam} (b : Nat) (F : Nat → Row) (h : At E fr (famsOf (hOf m) (⟨b, dlt 0, F⟩ :: fs)) T) : At E fr (famsOf (hOf m) fs) T :=
  h.weak (fun i v hv => hv) fun k r hk => by
    have hn : (⟨b, dlt 0, F⟩ : Fam).has k = false := by
      cases hh : (⟨b, dlt 0, F⟩ : Fam).has k with
      | false => rfl
      | true =>
        obtain ⟨i, _, hi⟩ := has_some hh
        have := dlt_iff.1 hi
        omega
    have h1 : (match (⟨b, dlt 0, F⟩ : Fam).has k with | true => some (F ((k - b) / 16)) | false => famsOf (hOf m) fs k) = some r := hk
    rw [hn] at h1
    exact h1
end
/-! ### Slices of bytes, in a slice -/
structure BE where
  A : Option Addr
  b : Nat
  c : Nat
  l : List (BitVec 8)
instance : Inhabited BE := ⟨⟨none, 0, 0, []⟩⟩
def BE.ok (e : BE) : Prop := (0 < e.c → e.A = some ⟨e.b, 0, none⟩) ∧ e.l.length ≤ e.c
theorem BE.adr {e : BE} (h : e.ok) (h0 : 0 < e.l.length) : e.A = some ⟨e.b, 0, none⟩ := h.1 (Nat.lt_of_lt_of_le h0 h.2)
theorem BE.adc {e : BE} (h : e.ok) (h0 : 0 < e.c) : e.A = some ⟨e.b, 0, none⟩ := h.1 h0
theorem BE.le {e : BE} (h : e.ok) : e.l.length ≤ e.c := h.2
theorem BE.okP {es : List BE} {x : BE} (h : ∀ e ∈ es, e.ok) (hx : x.ok) : ∀ e ∈ es ++ [x], e.ok := fun e he => by
  rcases List.mem_append.1 he with he | he
  · exact h e he
  · rw [List.mem_singleton.1 he]; exact hx
abbrev BE.v (e : BE) : Value := .slice e.A e.l.length e.c
abbrev BE.row (ty : TypeId) (e : BE) : Row := ⟨true, e.b, 0, ty, e.l.map u8V, e.c - e.l.length⟩
abbrev famB (b : Nat) (ty : TypeId) (es : List BE) : Fam := ⟨b, dlt es.length, fun i => (es.getD i default).row ty⟩
abbrev famBut (b : Nat) (ty : TypeId) (es : List BE) (j : Nat) : Fam := ⟨b, dbut es.length j, fun i => (es.getD i default).row ty⟩
theorem getD_left {es : List BE} {x : BE} {i : Nat} (h : i < es.length) : (es ++ [x]).getD i default = es.getD i default := by
  simp [List.getD_eq_getElem?_getD, List.getElem?_append_left h]
theorem getD_right {es : List BE} {x : BE} : (es ++ [x]).getD es.length default = x := by
  simp [List.getD_eq_getElem?_getD]
theorem getD_mem {es : List BE} {i : Nat} (h : i < es.length) : es.getD i default ∈ es := by
  rw [List.getD_eq_getElem?_getD, List.getElem?_eq_getElem h]
  exact List.getElem_mem h
section
variable {E : Env} {fr : Fr} {T : Act → World → Prop} {b k : Nat} {ty : TypeId} {es : List BE} {m : List (Nat × Row)} {fs : List Fam}
theorem At.famPush (e : BE) (hk : AllL (LowK b k) m) (hkb : Nat.blt k b = true) (hfs : AllL (FarF b k) fs) (h : At E fr (famsOf (hOf m) (famB b ty (es ++ [e]) :: fs)) T) : At E fr (famsOf (hOf ((k, e.row ty) :: m)) (famB b ty es :: fs)) T :=
  At.famPut (j := es.length) hk hkb hfs (fun i hi hne => by
    have h1 := dlt_iff.1 hi
    rw [List.length_append, List.length_singleton] at h1
    have h2 : i < es.length := by omega
    exact ⟨dlt_iff.2 h2, by rw [getD_left h2]⟩) (by rw [getD_right]) h
theorem At.famOut (k : Nat) {i : Nat} (hi : i < es.length) (hk : AllL (LowK b k) m) (hkb : Nat.blt k b = true) (hfs : AllL (FarF b k) fs) (h : At E fr (famsOf (hOf ((k, (es.getD i default).row ty) :: m)) (famBut b ty es i :: fs)) T) : At E fr (famsOf (hOf m) (famB b ty es :: fs)) T :=
  At.famTake (j := i) k _ hk hkb hfs (dlt_iff.2 hi) rfl (dbut es.length i) (fun q hq => by
    have := dbut_iff.1 hq
    exact ⟨dlt_iff.2 this.1, this.2⟩) h
theorem At.famIn {i : Nat} (hk : AllL (LowK b k) m) (hkb : Nat.blt k b = true) (hfs : AllL (FarF b k) fs) (h : At E fr (famsOf (hOf m) (famB b ty es :: fs)) T) : At E fr (famsOf (hOf ((k, (es.getD i default).row ty) :: m)) (famBut b ty es i :: fs)) T :=
  At.famPut (j := i) hk hkb hfs (fun q hq hne => ⟨dbut_iff.2 ⟨dlt_iff.1 hq, hne⟩, rfl⟩) rfl h
/-- .. another one in its place. -/
theorem At.famSet (e : BE) {i : Nat} (hi : i < es.length) (hk : AllL (LowK b k) m) (hkb : Nat.blt k b = true) (hfs : AllL (FarF b k) fs) (h : At E fr (famsOf (hOf m) (famB b ty (es.set i e) :: fs)) T) : At E fr (famsOf (hOf ((k, e.row ty) :: m)) (famBut b ty es i :: fs)) T :=
  At.famPut (j := i) hk hkb hfs (fun q hq hne => by
    have h1 := dlt_iff.1 hq
    rw [List.length_set] at h1
    exact ⟨dbut_iff.2 ⟨h1, hne⟩, by simp [List.getD_eq_getElem?_getD, List.getElem?_set_ne (Ne.symm hne)]⟩) (by simp [List.getD_eq_getElem?_getD, hi]) h
theorem FamOk.but {H : Hp} {j : Nat} (h : FamOk H (famB b ty es)) : FamOk H (famBut b ty es j) := h.congr fun i hi => ⟨dlt_iff.2 (dbut_iff.1 hi).1, rfl⟩
end
/-! ### Families handed over -/
def famK (b n : Nat) : List Nat := (List.range n).map (lf b)
theorem famK_mem {b n k : Nat} (h : k ∈ famK b n) : ∃ i, i < n ∧ k = lf b i := by
  obtain ⟨i, h1, rfl⟩ := List.mem_map.1 h
  exact ⟨i, List.mem_range.1 h1, rfl⟩
theorem famK_nodup (b n : Nat) : (famK b n).Nodup := by
  unfold famK
  rw [List.nodup_iff_pairwise_ne, List.pairwise_map]
  exact List.Pairwise.imp (fun h e => h (lf_inj e)) (List.nodup_iff_pairwise_ne.1 List.nodup_range)
theorem famK_app {ks : List Nat} {b n : Nat} (hk : ks.Nodup) (hl : AllL (fun k => Nat.blt k b = true) ks) : (ks ++ famK b n).Nodup := by
  rw [List.nodup_append]
  refine ⟨hk, famK_nodup b n, fun x hx y hy e => ?_⟩
  obtain ⟨i, _, rfl⟩ := famK_mem hy
  have := hl.mem x hx
  simp at this
  unfold lf at e
  omega
theorem rows_range (ty : TypeId) (es : List BE) : es.map (BE.row ty) = (List.range es.length).map fun i => (es.getD i default).row ty := by
  apply List.ext_getElem (by simp)
  intro i h1 h2
  have h3 : i < es.length := by simpa using h1
  simp [List.getD_eq_getElem?_getD, h3]
theorem give_fam {H : Hp} {ks : List Nat} {rs : List Row} {b : Nat} {ty : TypeId} {es : List BE} (h0 : ks.map H = rs.map some) (hF : FamOk H (famB b ty es)) : (ks ++ famK b es.length).map H = (rs ++ es.map (BE.row ty)).map some := by
  rw [List.map_append, List.map_append, h0, rows_range, famK, List.map_map, List.map_map]
  congr 1
  refine List.map_congr_left fun i hi => ?_
  exact hF i (dlt_iff.2 (List.mem_range.1 hi))
theorem own_fam {rs : List Row} {ty : TypeId} {es : List BE} (h : ∀ r ∈ rs, r.own = true) : ∀ r ∈ rs ++ es.map (BE.row ty), r.own = true := fun r hr => by
  rcases List.mem_append.1 hr with hr | hr
  · exact h r hr
  · obtain ⟨e, _, rfl⟩ := List.mem_map.1 hr
    rfl
theorem Hp.sets_app : ∀ {ks ls : List Nat} {rs ss : List Row} {H : Hp}, ks.length = rs.length → H.sets (ks ++ ls) (rs ++ ss) = (H.sets ks rs).sets ls ss
  | [], _, [], _, _, _ => rfl
  | k :: ks, ls, r :: rs, ss, H, h => Hp.sets_app (ks := ks) (rs := rs) (H := H.set k r) (by simpa using h)
  | [], _, _ :: _, _, _, h => by simp at h
  | _ :: _, _, [], _, _, h => by simp at h
theorem sets_fam {b : Nat} {F : Nat → Row} : ∀ (n : Nat) (H : Hp), H.sets ((List.range n).map (lf b)) ((List.range n).map F) = famsOf H [⟨b, dlt n, F⟩]
  | 0, H => by
    funext k
    have hn : (⟨b, dlt 0, F⟩ : Fam).has k = false := by
      cases hh : (⟨b, dlt 0, F⟩ : Fam).has k with
      | false => rfl
      | true =>
        obtain ⟨i, _, hi⟩ := has_some hh
        have := dlt_iff.1 hi
        omega
    show H k = (match (⟨b, dlt 0, F⟩ : Fam).has k with | true => some (F ((k - b) / 16)) | false => H k)
    rw [hn]
  | n + 1, H => by
    rw [List.range_succ, List.map_append, List.map_append, Hp.sets_app (by simp), sets_fam n H]
    funext k
    show (famsOf H [⟨b, dlt n, F⟩]).set (lf b n) (F n) k = (match (⟨b, dlt (n + 1), F⟩ : Fam).has k with | true => some (F ((k - b) / 16)) | false => H k)
    by_cases e : k = lf b n
    · subst e
      rw [Hp.set_same, show (⟨b, dlt (n + 1), F⟩ : Fam).has (lf b n) = true from (has_lf ⟨b, dlt (n + 1), F⟩ n).trans (dlt_iff.2 (Nat.lt_succ_self n)), lf_idx]
    · rw [Hp.set_ne _ _ e]
      show (match (⟨b, dlt n, F⟩ : Fam).has k with | true => some (F ((k - b) / 16)) | false => H k) = _
      have : (⟨b, dlt n, F⟩ : Fam).has k = (⟨b, dlt (n + 1), F⟩ : Fam).has k := by
        cases h1 : (⟨b, dlt n, F⟩ : Fam).has k with
        | true =>
          obtain ⟨i, rfl, hi⟩ := has_some h1
          exact ((has_lf ⟨b, dlt (n + 1), F⟩ i).trans (dlt_iff.2 (Nat.lt_succ_of_lt (dlt_iff.1 hi)))).symm
        | false =>
          cases h2 : (⟨b, dlt (n + 1), F⟩ : Fam).has k with
          | false => rfl
          | true =>
            obtain ⟨i, rfl, hi⟩ := has_some h2
            have h3 : i < n + 1 := dlt_iff.1 hi
            have h4 : i ≠ n := fun h => e (by rw [h])
            have h5 := (has_lf ⟨b, dlt n, F⟩ i).trans (dlt_iff.2 (by omega))
            exact h5.symm.trans h1 |>.symm
      rw [this]
theorem sets_famB {b : Nat} {ty : TypeId} {es : List BE} {H : Hp} {ks : List Nat} {rs : List Row} (h : ks.length = rs.length) : H.sets (ks ++ famK b ((rs ++ es.map (BE.row ty)).length - ks.length)) (rs ++ es.map (BE.row ty)) = famsOf (H.sets ks rs) [famB b ty es] := by
  have e : (rs ++ es.map (BE.row ty)).length - ks.length = es.length := by simp; omega
  rw [e, Hp.sets_app h, rows_range]
  exact sets_fam _ _
section
variable {P : Program} {E : Env} {fr : Fr} {H : Hp} {o : Oper}
/-- A call whose answer holds a family. -/
theorem S_callRF (d : Option Tmp) (owns views : List (Nat × Row)) (ks : List Nat) (b : Nat) {f : FuncId} {xs : List Operand} {tys : Array TypeId} {vs : List Value} {K : Fr → Hp → Prop} {post : Value → List Row → Prop} (ho : o.op = .call ⟨.value (.func f), xs.toArray, tys⟩) (he : entersB P f = true) (ha : ArgsOk fr xs vs)
    (hO : OwnsOk H owns) (hd : (owns.map (·.1)).Nodup) (hV : ViewsOk H owns views) (hk : ks.Nodup) (hlow : AllL (fun k => Nat.blt k b = true) ks)
    (hcon : Con P f vs (owns.map (·.2) ++ views.map (·.2)) post) (hl : ∀ v rows', post v rows' → ks.length ≤ rows'.length)
    (h : ∀ v rows', post v rows' → K (fr.put E.n d v) ((H.dels (owns.map (·.1))).sets (ks ++ famK b (rows'.length - ks.length)) rows')) (hd : o.dst = d := by rfl) : SStep P E true fr H o K := by
  subst hd
  refine S_call _ ho he ha fun w hw hH => ?_
  refine (hcon w (hH.lift hw owns views hO.mem hd hV.mem)).mono fun e w' ⟨v, rows', h1, h2, h3, h4, h5⟩ => ?_
  have hvo : ∀ p ∈ views, p.2.own = false := fun p hp => by
    rcases hV.mem p hp with h1 | ⟨_, r, _, h3, _⟩
    · exact h1.2
    · exact h3
  obtain ⟨h6, h7⟩ := hH.back hw owns views hO.mem hvo h3 h4 h5 (ks ++ famK b (rows'.length - ks.length)) (by
    have := hl v rows' h2
    simp [famK]
    omega) (famK_app hk hlow)
  exact ⟨v, _, h1, fun h => (by cases h), h7, h6, h v rows' h2⟩
end
end SE
end Go
