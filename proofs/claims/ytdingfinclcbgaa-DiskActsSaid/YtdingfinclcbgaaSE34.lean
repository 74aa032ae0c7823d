/- A region that draws its order, whatever the order: what each operation makes, each told once. Generic (no program). -/
import Derived.Test.YtdingfinclcbgaaSE25
namespace Go
namespace SE
open Go.RowKit
set_option linter.unusedVariables false
set_option linter.unusedSimpArgs false
/-- What an operation makes: a value; a new row; a row's cells. -/
inductive OK where
  | q (v : Value)
  | al (lab : Nat) (ty : TypeId) (cs : List Value)
  | st (lab : Nat) (b0 : Option Nat) (ty : TypeId) (cs : List Value) (rest : Nat)
instance : Inhabited OK := ⟨.q undef⟩
def bOf (A : Nat → Nat) (lab : Nat) : Option Nat → Nat
  | some b => b
  | none => A lab
def OK.val (A : Nat → Nat) : OK → Option Value
  | .q v => some v
  | .al lab _ _ => some (.pointer (some ⟨A lab, 0, none⟩))
  | .st _ _ _ _ _ => none
def OK.isAl (k : Nat) : OK → Bool
  | .al lab _ _ => Nat.beq lab k
  | _ => false
def OK.isSt (k : Nat) : OK → Bool
  | .st lab _ _ _ _ => Nat.beq lab k
  | _ => false
def onsB (o : Oper) : List Nat := (o.after.toList.filter (Region.binds .any)).map (·.on)
def ancB (l : List Oper) : Nat → Nat → Nat → Bool
  | 0, _, _ => false
  | f + 1, j, i => (onsB (l.getD j default)).any fun e => Nat.beq e i || ancB l f e i
def isDst (o : Oper) (s : Nat) : Bool := match o.dst with
  | some d => Nat.beq d s
  | none => false
def dstB (l : List Oper) (s : Nat) : Bool := l.any fun o => isDst o s
def dstFree (l : List Oper) (j : Nat) : Bool := match (l.getD j default).dst with
  | none => true
  | some d => (List.range l.length).all fun j' => Nat.beq j' j || !isDst (l.getD j' default) d
def kindFree (l : List Oper) (ks : List OK) (j : Nat) : Bool := match ks.getD j default with
  | .q _ => true
  | .al lab _ _ => (List.range l.length).all fun j' => (Nat.beq j' j || !(ks.getD j' default).isAl lab) && (!(ks.getD j' default).isSt lab || (match ks.getD j' default with
    | .st _ none _ _ _ => ancB l l.length j' j
    | _ => false))
  | .st lab b0 _ _ _ => (l.getD j default).dst.isNone && (List.range l.length).all fun j' => Nat.beq j' j || !(ks.getD j' default).isSt lab
def okO (l : List Oper) (ks : List OK) : Bool :=
  Nat.beq ks.length l.length && (List.range l.length).all fun j => (onsB (l.getD j default)).all (fun e => Nat.blt e j) && dstFree l j && kindFree l ks j
/-- Who asks for the row comes first. -/
def touchB (l : List Oper) (ks : List OK) (i k : Nat) : Bool := (List.range l.length).all fun j => Nat.beq j i || !((ks.getD j default).isAl k || (ks.getD j default).isSt k) || ancB l l.length j i
def writeB (l : List Oper) (ks : List OK) (i k : Nat) : Bool := (List.range l.length).all fun j => Nat.beq j i || !(ks.getD j default).isSt k || ancB l l.length j i

structure OInv (l : List Oper) (ks : List OK) (fr : Fr) (H : Hp) (L : Array Bool) (A : Nat → Nat) (fr' : Fr) (H' : Hp) : Prop where
  init : ∀ s v, fr s = some v → dstB l s = false → fr' s = some v
  done : ∀ j d v, j < l.length → L.getD j false = true → (l.getD j default).dst = some d → (ks.getD j default).val A = some v → fr' d = some v
  row0 : ∀ k r, H k = some r → (∀ j, j < l.length → (ks.getD j default).isAl k = true ∨ (ks.getD j default).isSt k = true → L.getD j false = false) → H' k = some r
  rowA : ∀ j lab ty cs, j < l.length → ks.getD j default = .al lab ty cs → L.getD j false = true → (∀ j', j' < l.length → (ks.getD j' default).isSt lab = true → L.getD j' false = false) → H' lab = some ⟨true, A lab, 0, ty, cs, 0⟩
  rowS : ∀ j lab b0 ty cs rest, j < l.length → ks.getD j default = .st lab b0 ty cs rest → L.getD j false = true → H' lab = some ⟨true, bOf A lab b0, 0, ty, cs, rest⟩
structure ORdy (l : List Oper) (L : Array Bool) (i : Nat) : Prop where
  closed : ∀ j, j < l.length → L.getD j false = true → ∀ e ∈ onsB (l.getD j default), L.getD e false = true ∧ e < l.length
  lt : i < l.length
  un : L.getD i false = false
  ons : ∀ e ∈ onsB (l.getD i default), L.getD e false = true ∧ e < l.length

theorem anc_listed {l : List Oper} {L : Array Bool} (hc : ∀ j, j < l.length → L.getD j false = true → ∀ e ∈ onsB (l.getD j default), L.getD e false = true ∧ e < l.length) :
    ∀ (f j i : Nat), (∀ e ∈ onsB (l.getD j default), L.getD e false = true ∧ e < l.length) → ancB l f j i = true → L.getD i false = true
  | 0, j, i, _, h => by simp [ancB] at h
  | f + 1, j, i, ho, h => by
    unfold ancB at h
    obtain ⟨e, he, h⟩ := List.any_eq_true.1 h
    rcases Bool.or_eq_true_iff.1 h with h | h
    · rw [← Nat.eq_of_beq_eq_true h]; exact (ho e he).1
    · exact anc_listed hc f e i (hc e (ho e he).2 (ho e he).1) h

section
variable {l : List Oper} {ks : List OK} {fr fr' : Fr} {H H' : Hp} {L : Array Bool} {A : Nat → Nat} {i : Nat}
theorem ORdy.anc (R : ORdy l L i) {j : Nat} (h : ancB l l.length i j = true) : L.getD j false = true := anc_listed R.closed _ _ _ R.ons h
theorem ORdy.not (R : ORdy l L i) {j : Nat} (hj : j < l.length) (h : (Nat.beq j i || ancB l l.length j i) = true) : L.getD j false = false := by
  rcases Bool.or_eq_true_iff.1 h with h | h
  · rw [Nat.eq_of_beq_eq_true h]; exact R.un
  · cases hL : L.getD j false with
    | false => rfl
    | true =>
      have h1 := anc_listed R.closed _ _ _ (R.closed j hj hL) h
      rw [R.un] at h1; cases h1
theorem OInv.slotD (I : OInv l ks fr H L A fr' H') (R : ORdy l L i) (j : Nat) {d : Nat} {v : Value} (hj : (Nat.blt j l.length && ancB l l.length i j) = true) (hd : (l.getD j default).dst = some d) (hv : (ks.getD j default).val A = some v) : fr' d = some v := by
  rw [Bool.and_eq_true] at hj
  exact I.done j d v (by simpa using hj.1) (R.anc hj.2) hd hv
theorem OInv.get0 (I : OInv l ks fr H L A fr' H') (R : ORdy l L i) {k : Nat} {r : Row} (h : H k = some r) (ht : touchB l ks i k = true) : H' k = some r := by
  refine I.row0 k r h fun j hj hk => R.not hj ?_
  have h1 := List.all_eq_true.1 ht j (List.mem_range.2 hj)
  rcases hk with hk | hk <;> rw [hk] at h1 <;> simpa using h1
theorem OInv.getA (I : OInv l ks fr H L A fr' H') (R : ORdy l L i) (j : Nat) {lab : Nat} {ty : TypeId} {cs : List Value} (hj : (Nat.blt j l.length && ancB l l.length i j && writeB l ks i lab) = true) (hk : ks.getD j default = .al lab ty cs) : H' lab = some ⟨true, A lab, 0, ty, cs, 0⟩ := by
  rw [Bool.and_eq_true, Bool.and_eq_true] at hj
  refine I.rowA j lab ty cs (by simpa using hj.1.1) hk (R.anc hj.1.2) fun j' hj' hs => R.not hj' ?_
  have h1 := List.all_eq_true.1 hj.2 j' (List.mem_range.2 hj')
  rw [hs] at h1
  simpa using h1
theorem OInv.getS (I : OInv l ks fr H L A fr' H') (R : ORdy l L i) (j : Nat) {lab : Nat} {b0 : Option Nat} {ty : TypeId} {cs : List Value} {rest : Nat} (hj : (Nat.blt j l.length && ancB l l.length i j) = true) (hk : ks.getD j default = .st lab b0 ty cs rest) : H' lab = some ⟨true, bOf A lab b0, 0, ty, cs, rest⟩ := by
  rw [Bool.and_eq_true] at hj
  exact I.rowS j lab b0 ty cs rest (by simpa using hj.1) hk (R.anc hj.2)
end

/-- A step that yields a value and leaves what was there. -/
def OStep (P : Program) (E : Env) (fr : Fr) (H : Hp) (o : Oper) (v : Value) : Prop := ∀ a w, Rep E fr H a w → o.wp P a w (fun a' w' => a' = a.put o.dst v ∧ RG.Ext w w') (fun _ _ _ => False)
theorem QStep.o {P : Program} {E : Env} {fr : Fr} {H : Hp} {o : Oper} {v : Value} (h : QStep P E fr H o v) : OStep P E fr H o v := fun a w R => by
  unfold Oper.wp
  rw [h a w R]
  exact ⟨rfl, RG.Ext.refl w⟩
theorem PStep.o {P : Program} {E : Env} {fr : Fr} {H : Hp} {o : Oper} {v : Value} (h : PStep P fr o v) : OStep P E fr H o v := h.q.o
theorem OStep.weak {P : Program} {E : Env} {fr : Fr} {H : Hp} {o : Oper} {v : Value} {sl : List (Nat × Value)} {rw_ : List (Nat × Row)} (hs : AllL (fun p => fr p.1 = some p.2) sl) (hr : AllL (fun p => H p.1 = some p.2) rw_) (h : OStep P E (frOf sl) (hOf rw_) o v) : OStep P E fr H o v :=
  At.weak (T := fun a w => o.wp P a w (fun a' w' => a' = a.put o.dst v ∧ RG.Ext w w') (fun _ _ _ => False)) (frOf_le hs.mem) (hOf_le hr.mem) h
theorem O_call {P : Program} {E : Env} {fr : Fr} {H : Hp} {v : Value} {o : Oper} {f : FuncId} {xs : List Operand} {tys : Array TypeId} (views : List (Nat × Row)) {vs : List Value} (ho : o.op = .call ⟨.value (.func f), xs.toArray, tys⟩) (he : entersB P f = true) (ha : ArgsOk fr xs vs)
    (hV : ViewsOk H [] views) (hcon : Con P f vs (views.map (·.2)) fun u rows' => u = v ∧ rows' = []) : OStep P E fr H o v := fun a w R => by
  unfold Oper.wp
  rw [run_call ho he ha R.fr w]
  have hl0 := R.heap.lift R.chg [] views (by simp) (by simp) hV.mem
  simp only [List.map_nil, List.nil_append] at hl0
  refine (hcon w hl0).mono fun e w3 ⟨u, rows', h1, ⟨hu, _⟩, h3, h4, h5⟩ => ?_
  have hvo : ∀ p ∈ views, p.2.own = false := fun p hp => by
    rcases hV.mem p hp with h1 | ⟨_, r, _, h3, _⟩
    · exact h1.2
    · exact h3
  have hnil : ownB (views.map (·.2)) = [] := ownB_views fun r hr => by
    obtain ⟨p, hp, rfl⟩ := List.mem_map.1 hr
    exact hvo p hp
  rw [hnil] at h3
  subst h1 hu
  exact ⟨rfl, h3.below⟩

/-- What is owed of an operation. -/
def OGoal (P : Program) (E : Env) (fr : Fr) (H : Hp) (A : Nat → Nat) (o : Oper) : OK → Prop
  | .q v => OStep P E fr H o v
  | .al _ ty cs => ∃ z, o.op = .alloc ty ∧ tze P ty = some z ∧ z.cells.toList = cs
  | .st lab b0 ty cs rest => SStep P E true fr H o fun fr' H' => fr' = fr ∧ H' = H.set lab ⟨true, bOf A lab b0, 0, ty, cs, rest⟩

theorem OGoal.q {P : Program} {E : Env} {fr : Fr} {H : Hp} {A : Nat → Nat} {o : Oper} {k : OK} {v : Value} (hk : k = .q v) (h : OStep P E fr H o v) : OGoal P E fr H A o k := by subst hk; exact h
theorem OGoal.al {P : Program} {E : Env} {fr : Fr} {H : Hp} {A : Nat → Nat} {o : Oper} {k : OK} {lab : Nat} {ty : TypeId} {cs : List Value} {z : Value} (hk : k = .al lab ty cs) (ho : o.op = .alloc ty) (hz : tze P ty = some z) (hc : z.cells.toList = cs) : OGoal P E fr H A o k := by subst hk; exact ⟨z, ho, hz, hc⟩
theorem OGoal.st {P : Program} {E : Env} {fr : Fr} {H : Hp} {A : Nat → Nat} {o : Oper} {k : OK} {lab : Nat} {b0 : Option Nat} {ty : TypeId} {cs : List Value} {rest : Nat} (hk : k = .st lab b0 ty cs rest) (h : SStep P E true fr H o fun fr' H' => fr' = fr ∧ H' = H.set lab ⟨true, bOf A lab b0, 0, ty, cs, rest⟩) : OGoal P E fr H A o k := by subst hk; exact h

/-- The frame and the rows when all is done. -/
def ovr (A : Nat → Nat) : List Oper → List OK → Fr → Fr
  | o :: l, k :: ks, fr => match o.dst with
    | some d => fun s => match Nat.beq s d with
      | true => k.val A
      | false => ovr A l ks fr s
    | none => ovr A l ks fr
  | _, _, fr => fr
def stR (A : Nat → Nat) (k : Nat) : List OK → Option Row
  | [] => none
  | .st lab b0 ty cs rest :: ks => match Nat.beq lab k with
    | true => some ⟨true, bOf A lab b0, 0, ty, cs, rest⟩
    | false => stR A k ks
  | _ :: ks => stR A k ks
def alR (A : Nat → Nat) (k : Nat) : List OK → Option Row
  | [] => none
  | .al lab ty cs :: ks => match Nat.beq lab k with
    | true => some ⟨true, A lab, 0, ty, cs, 0⟩
    | false => alR A k ks
  | _ :: ks => alR A k ks
def hovr (A : Nat → Nat) (ks : List OK) (H : Hp) : Hp := fun k => match stR A k ks with
  | some r => some r
  | none => match alR A k ks with
    | some r => some r
    | none => H k

theorem ovr_some {A : Nat → Nat} {fr : Fr} {s : Nat} {v : Value} : ∀ {l : List Oper} {ks : List OK}, ks.length = l.length → ovr A l ks fr s = some v →
    (∃ j, j < l.length ∧ (l.getD j default).dst = some s ∧ (ks.getD j default).val A = some v) ∨ (fr s = some v ∧ dstB l s = false)
  | [], [], _, h => .inr ⟨h, rfl⟩
  | [], _ :: _, hl, _ => by simp at hl
  | _ :: _, [], hl, _ => by simp at hl
  | o :: l, k :: ks, hl, h => by
    have hl' : ks.length = l.length := by simpa using hl
    have up : ∀ {v : Value}, (isDst o s = false) → ovr A l ks fr s = some v → (∃ j, j < (o :: l).length ∧ ((o :: l).getD j default).dst = some s ∧ ((k :: ks).getD j default).val A = some v) ∨ (fr s = some v ∧ dstB (o :: l) s = false) := fun hd hv => by
      rcases ovr_some hl' hv with ⟨j, h1, h2, h3⟩ | ⟨h1, h2⟩
      · exact .inl ⟨j + 1, by simpa using h1, by simpa using h2, by simpa using h3⟩
      · exact .inr ⟨h1, by unfold dstB at *; simp [hd]; simpa using h2⟩
    cases hd : o.dst with
    | some d =>
      simp only [ovr, hd] at h
      split at h
      · rename_i hb
        have hb : s = d := Nat.eq_of_beq_eq_true hb
        subst hb
        exact .inl ⟨0, by simp, by simpa using hd, by simpa using h⟩
      · rename_i hb
        refine up ?_ h
        unfold isDst
        rw [hd]
        exact bnf (fun e => bne hb e.symm)
    | none =>
      simp only [ovr, hd] at h
      refine up ?_ h
      unfold isDst
      rw [hd]
theorem stR_some {A : Nat → Nat} {k : Nat} {r : Row} : ∀ {ks : List OK}, stR A k ks = some r → ∃ j b0 ty cs rest, j < ks.length ∧ ks.getD j default = .st k b0 ty cs rest ∧ r = ⟨true, bOf A k b0, 0, ty, cs, rest⟩
  | [], h => by simp [stR] at h
  | .st lab b0 ty cs rest :: ks, h => by
    unfold stR at h
    split at h
    · rename_i hb
      have hb := Nat.eq_of_beq_eq_true hb
      subst hb
      exact ⟨0, b0, ty, cs, rest, by simp, by simp, (Option.some.inj h).symm⟩
    · obtain ⟨j, b1, ty', cs', rest', h1, h2, h3⟩ := stR_some h
      exact ⟨j + 1, b1, ty', cs', rest', by simpa using h1, by simpa using h2, h3⟩
  | .q _ :: ks, h => by
    obtain ⟨j, b1, ty', cs', rest', h1, h2, h3⟩ := stR_some (ks := ks) h
    exact ⟨j + 1, b1, ty', cs', rest', by simpa using h1, by simpa using h2, h3⟩
  | .al _ _ _ :: ks, h => by
    obtain ⟨j, b1, ty', cs', rest', h1, h2, h3⟩ := stR_some (ks := ks) h
    exact ⟨j + 1, b1, ty', cs', rest', by simpa using h1, by simpa using h2, h3⟩
theorem stR_none {A : Nat → Nat} {k : Nat} : ∀ {ks : List OK}, stR A k ks = none → ∀ j, (ks.getD j default).isSt k = false
  | [], h, j => by simp [OK.isSt, default]
  | .st lab b0 ty cs rest :: ks, h, j => by
    unfold stR at h
    split at h
    · cases h
    · rename_i hb
      cases j with
      | zero => simpa [OK.isSt] using hb
      | succ j => simpa using stR_none h j
  | .q _ :: ks, h, j => by
    cases j with
    | zero => simp [OK.isSt]
    | succ j => simpa using stR_none (ks := ks) h j
  | .al _ _ _ :: ks, h, j => by
    cases j with
    | zero => simp [OK.isSt]
    | succ j => simpa using stR_none (ks := ks) h j
theorem alR_some {A : Nat → Nat} {k : Nat} {r : Row} : ∀ {ks : List OK}, alR A k ks = some r → ∃ j ty cs, j < ks.length ∧ ks.getD j default = .al k ty cs ∧ r = ⟨true, A k, 0, ty, cs, 0⟩
  | [], h => by simp [alR] at h
  | .al lab ty cs :: ks, h => by
    unfold alR at h
    split at h
    · rename_i hb
      have hb := Nat.eq_of_beq_eq_true hb
      subst hb
      exact ⟨0, ty, cs, by simp, by simp, (Option.some.inj h).symm⟩
    · obtain ⟨j, ty', cs', h1, h2, h3⟩ := alR_some h
      exact ⟨j + 1, ty', cs', by simpa using h1, by simpa using h2, h3⟩
  | .q _ :: ks, h => by
    obtain ⟨j, ty', cs', h1, h2, h3⟩ := alR_some (ks := ks) h
    exact ⟨j + 1, ty', cs', by simpa using h1, by simpa using h2, h3⟩
  | .st _ _ _ _ _ :: ks, h => by
    obtain ⟨j, ty', cs', h1, h2, h3⟩ := alR_some (ks := ks) h
    exact ⟨j + 1, ty', cs', by simpa using h1, by simpa using h2, h3⟩
theorem alR_none {A : Nat → Nat} {k : Nat} : ∀ {ks : List OK}, alR A k ks = none → ∀ j, (ks.getD j default).isAl k = false
  | [], h, j => by simp [OK.isAl, default]
  | .al lab ty cs :: ks, h, j => by
    unfold alR at h
    split at h
    · cases h
    · rename_i hb
      cases j with
      | zero => simpa [OK.isAl] using hb
      | succ j => simpa using alR_none h j
  | .q _ :: ks, h, j => by
    cases j with
    | zero => simp [OK.isAl]
    | succ j => simpa using alR_none (ks := ks) h j
  | .st _ _ _ _ _ :: ks, h, j => by
    cases j with
    | zero => simp [OK.isAl]
    | succ j => simpa using alR_none (ks := ks) h j

theorem cnt_one {f g : Nat → Bool} {i : Nat} (hf : f i = true) (hg : g i = false) (hne : ∀ j, j ≠ i → f j = g j) : ∀ n, i < n → (List.range n).countP f = (List.range n).countP g + 1
  | 0, h => by omega
  | n + 1, h => by
    rw [List.range_succ, List.countP_append, List.countP_append]
    by_cases hi : i = n
    · subst hi
      have : (List.range i).countP f = (List.range i).countP g := List.countP_congr fun j hj => by rw [hne j (by have := List.mem_range.1 hj; omega)]
      simp [this, hf, hg]
    · have h1 := cnt_one hf hg hne n (by omega)
      have h2 := hne n (Ne.symm hi)
      simp only [h1, List.countP_cons, List.countP_nil, h2]
      omega
theorem least {f : Nat → Bool} : ∀ (j : Nat), f j = false → ∃ i, i ≤ j ∧ f i = false ∧ ∀ k, k < i → f k = true := by
  intro j
  induction j using Nat.strongRecOn with
  | _ j ih =>
    intro hj
    by_cases h : ∃ k, k < j ∧ f k = false
    · obtain ⟨k, h1, h2⟩ := h
      obtain ⟨i, h3, h4, h5⟩ := ih k h1 h2
      exact ⟨i, by omega, h4, h5⟩
    · refine ⟨j, Nat.le_refl _, hj, fun k hk => ?_⟩
      cases hf : f k with
      | true => rfl
      | false => exact absurd ⟨k, hk, hf⟩ h

section
variable {l : List Oper} {ks : List OK} {fr fr' : Fr} {H H' : Hp} {L : Array Bool} {A : Nat → Nat} {i : Nat} {n : Nat}
theorem okO_spec (h : okO l ks = true) : ks.length = l.length ∧ ∀ j, j < l.length → (∀ e ∈ onsB (l.getD j default), e < j) ∧ dstFree l j = true ∧ kindFree l ks j = true := by
  unfold okO at h
  rw [Bool.and_eq_true] at h
  refine ⟨Nat.eq_of_beq_eq_true h.1, fun j hj => ?_⟩
  have h1 := List.all_eq_true.1 h.2 j (List.mem_range.2 hj)
  rw [Bool.and_eq_true, Bool.and_eq_true] at h1
  exact ⟨fun e he => by simpa using List.all_eq_true.1 h1.1.1 e he, h1.1.2, h1.2⟩
theorem dstFree_ne {d : Nat} (h : dstFree l i = true) (hi : (l.getD i default).dst = some d) {j : Nat} (hj : j < l.length) (hne : j ≠ i) : (l.getD j default).dst ≠ some d := by
  unfold dstFree at h
  rw [hi] at h
  have h1 := List.all_eq_true.1 h j (List.mem_range.2 hj)
  rw [bnf hne, Bool.false_or] at h1
  intro he
  unfold isDst at h1
  rw [he] at h1
  simp at h1
theorem put_same {d : Nat} {v : Value} (hd : d < n) : Fr.put n fr (some d) v d = some v := by
  have : Nat.blt d n = true := by simpa using hd
  simp [Fr.put, this]
theorem put_ne {d s : Nat} {v : Value} (hd : s ≠ d) : Fr.put n fr (some d) v s = fr s := by simp [Fr.put, bnf hd]
theorem set_back {j : Nat} (h : (L.setIfInBounds i true).getD j false = false) : L.getD j false = false := by
  cases hL : L.getD j false with
  | false => rfl
  | true => rw [getD_set_true hL] at h; cases h
theorem set_ne {j : Nat} (hne : j ≠ i) (h : (L.setIfInBounds i true).getD j false = true) : L.getD j false = true := by rwa [getD_set_ne false (Ne.symm hne)] at h
theorem set_at (hi : i < L.size) : (L.setIfInBounds i true).getD i false = true := by simp [hi]

/-- The frame's part of a step. -/
theorem OInv.fr_step (I : OInv l ks fr H L A fr' H') {A' : Nat → Nat} (hi : i < l.length) (hdf : dstFree l i = true) (v : Value) (hv : (l.getD i default).dst.isSome = true → (ks.getD i default).val A' = some v) (hlt : ∀ d, (l.getD i default).dst = some d → d < n)
    (hA : ∀ j, j < l.length → j ≠ i → (ks.getD j default).val A' = (ks.getD j default).val A) :
    (∀ s v', fr s = some v' → dstB l s = false → fr'.put n (l.getD i default).dst v s = some v') ∧
    (∀ j d v', j < l.length → (L.setIfInBounds i true).getD j false = true → (l.getD j default).dst = some d → (ks.getD j default).val A' = some v' → fr'.put n (l.getD i default).dst v d = some v') := by
  cases hd : (l.getD i default).dst with
  | none =>
    refine ⟨fun s v' h1 h2 => I.init s v' h1 h2, fun j d v' hj hL hjd hjv => ?_⟩
    have hne : j ≠ i := fun e => by subst e; rw [hd] at hjd; cases hjd
    exact I.done j d v' hj (set_ne hne hL) hjd (by rw [← hA j hj hne]; exact hjv)
  | some d =>
    refine ⟨fun s v' h1 h2 => ?_, fun j d' v' hj hL hjd hjv => ?_⟩
    · rw [put_ne]
      · exact I.init s v' h1 h2
      · rintro rfl
        have h3 : dstB l s = true := by
          unfold dstB
          refine List.any_eq_true.2 ⟨l.getD i default, ?_, ?_⟩
          · simp [hi]
          · unfold isDst; rw [hd]; simp
        rw [h2] at h3; cases h3
    · by_cases hne : j = i
      · subst hne
        rw [hd] at hjd
        cases hjd
        have h4 := hv (by rw [hd]; rfl)
        rw [hjv] at h4
        rw [put_same (hlt _ hd)]
        exact h4.symm
      · rw [put_ne]
        · exact I.done j d' v' hj (set_ne hne hL) hjd (by rw [← hA j hj hne]; exact hjv)
        · rintro rfl
          exact dstFree_ne hdf hd hj hne hjd
theorem OInv.q (I : OInv l ks fr H L A fr' H') (hi : i < l.length) (hdf : dstFree l i = true) {v : Value} (hk : ks.getD i default = .q v) (hlt : ∀ d, (l.getD i default).dst = some d → d < n) :
    OInv l ks fr H (L.setIfInBounds i true) A (fr'.put n (l.getD i default).dst v) H' := by
  obtain ⟨h1, h2⟩ := I.fr_step (A' := A) hi hdf v (fun _ => by rw [hk]; rfl) hlt (fun _ _ _ => rfl)
  refine ⟨h1, h2, fun k r hr hj => I.row0 k r hr fun j hj' ht => set_back (hj j hj' ht), fun j lab ty cs hj hkj hL hn => ?_, fun j lab b0 ty cs rest hj hkj hL => ?_⟩
  · have hne : j ≠ i := fun e => by subst e; rw [hk] at hkj; cases hkj
    exact I.rowA j lab ty cs hj hkj (set_ne hne hL) fun j' hj' hs => set_back (hn j' hj' hs)
  · have hne : j ≠ i := fun e => by subst e; rw [hk] at hkj; cases hkj
    exact I.rowS j lab b0 ty cs rest hj hkj (set_ne hne hL)
theorem OInv.al (I : OInv l ks fr H L A fr' H') (R : ORdy l L i) (hs : i < L.size) (hdf : dstFree l i = true) (hkf : kindFree l ks i = true) {lab : Nat} {ty : TypeId} {cs : List Value} (hk : ks.getD i default = .al lab ty cs) (hlt : ∀ d, (l.getD i default).dst = some d → d < n) (b : Nat) :
    OInv l ks fr H (L.setIfInBounds i true) (fun k => if k = lab then b else A k) (fr'.put n (l.getD i default).dst (.pointer (some ⟨b, 0, none⟩))) (H'.set lab ⟨true, b, 0, ty, cs, 0⟩) := by
  have hi := R.lt
  unfold kindFree at hkf
  rw [hk] at hkf
  have hkf' : ∀ j, j < l.length → (j = i ∨ (ks.getD j default).isAl lab = false) ∧ ((ks.getD j default).isSt lab = true → L.getD j false = false) := fun j hj => by
    have h1 := List.all_eq_true.1 hkf j (List.mem_range.2 hj)
    rw [Bool.and_eq_true] at h1
    refine ⟨?_, fun hst => ?_⟩
    · rcases Bool.or_eq_true_iff.1 h1.1 with h2 | h2
      · exact .inl (Nat.eq_of_beq_eq_true h2)
      · exact .inr (by simpa using h2)
    · rw [hst, Bool.not_true, Bool.false_or] at h1
      refine R.not hj ?_
      rw [Bool.or_eq_true]
      refine Or.inr ?_
      have h3 := h1.2
      split at h3
      · exact h3
      · cases h3
  have hA : ∀ j, j < l.length → j ≠ i → (ks.getD j default).val (fun k => if k = lab then b else A k) = (ks.getD j default).val A := fun j hj hne => by
    rcases (hkf' j hj).1 with h1 | h1
    · exact absurd h1 hne
    · cases hkj : ks.getD j default with
      | q v => rfl
      | al lab' ty' cs' =>
        rw [hkj] at h1
        have : lab' ≠ lab := bne h1
        simp [OK.val, this]
      | st => rfl
  obtain ⟨h1, h2⟩ := I.fr_step (A' := fun k => if k = lab then b else A k) hi hdf (.pointer (some ⟨b, 0, none⟩)) (fun _ => by rw [hk]; simp [OK.val]) hlt hA
  have hthis : (L.setIfInBounds i true).getD i false = true := set_at hs
  refine ⟨h1, h2, fun k r hr hj => ?_, fun j lab' ty' cs' hj hkj hL hn => ?_, fun j lab' b0 ty' cs' rest hj hkj hL => ?_⟩
  · have hne : k ≠ lab := by
      rintro rfl
      have := hj i hi (.inl (by rw [hk]; simp [OK.isAl]))
      rw [hthis] at this; cases this
    rw [Hp.set_ne _ _ hne]
    exact I.row0 k r hr fun j hj' ht => set_back (hj j hj' ht)
  · by_cases hne : j = i
    · subst hne
      rw [hk] at hkj
      cases hkj
      simp [Hp.set_same]
    · have hl : lab' ≠ lab := by
        rcases (hkf' j hj).1 with h3 | h3
        · exact absurd h3 hne
        · rw [hkj] at h3; exact bne h3
      rw [Hp.set_ne _ _ hl]
      simp only [hl, if_false]
      exact I.rowA j lab' ty' cs' hj hkj (set_ne hne hL) fun j' hj' hs' => set_back (hn j' hj' hs')
  · have hne : j ≠ i := fun e => by subst e; rw [hk] at hkj; cases hkj
    have hLj := set_ne hne hL
    have hl : lab' ≠ lab := by
      rintro rfl
      have := (hkf' j hj).2 (by rw [hkj]; simp [OK.isSt])
      rw [hLj] at this; cases this
    rw [Hp.set_ne _ _ hl]
    have := I.rowS j lab' b0 ty' cs' rest hj hkj hLj
    cases b0 with
    | some b1 => exact this
    | none => simpa [bOf, hl] using this
theorem OInv.st (I : OInv l ks fr H L A fr' H') (hi : i < l.length) (hs : i < L.size) (hkf : kindFree l ks i = true) {lab : Nat} {b0 : Option Nat} {ty : TypeId} {cs : List Value} {rest : Nat} (hk : ks.getD i default = .st lab b0 ty cs rest) :
    OInv l ks fr H (L.setIfInBounds i true) A fr' (H'.set lab ⟨true, bOf A lab b0, 0, ty, cs, rest⟩) := by
  unfold kindFree at hkf
  rw [hk] at hkf
  rw [Bool.and_eq_true] at hkf
  have hdn : (l.getD i default).dst = none := by
    cases hd : (l.getD i default).dst with
    | none => rfl
    | some d => rw [hd] at hkf; simp at hkf
  have hkf' : ∀ j, j < l.length → j ≠ i → (ks.getD j default).isSt lab = false := fun j hj hne => by
    have h1 := List.all_eq_true.1 hkf.2 j (List.mem_range.2 hj)
    rw [bnf hne, Bool.false_or] at h1
    simpa using h1
  have hthis : (L.setIfInBounds i true).getD i false = true := set_at hs
  refine ⟨I.init, fun j d v hj hL hjd hjv => ?_, fun k r hr hj => ?_, fun j lab' ty' cs' hj hkj hL hn => ?_, fun j lab' b0' ty' cs' rest' hj hkj hL => ?_⟩
  · have hne : j ≠ i := fun e => by subst e; rw [hdn] at hjd; cases hjd
    exact I.done j d v hj (set_ne hne hL) hjd hjv
  · have hne : k ≠ lab := by
      rintro rfl
      have := hj i hi (.inr (by rw [hk]; simp [OK.isSt]))
      rw [hthis] at this; cases this
    rw [Hp.set_ne _ _ hne]
    exact I.row0 k r hr fun j hj' ht => set_back (hj j hj' ht)
  · have hne : j ≠ i := fun e => by subst e; rw [hk] at hkj; cases hkj
    have hl : lab' ≠ lab := by
      rintro rfl
      have := hn i hi (by rw [hk]; simp [OK.isSt])
      rw [hthis] at this; cases this
    rw [Hp.set_ne _ _ hl]
    exact I.rowA j lab' ty' cs' hj hkj (set_ne hne hL) fun j' hj' hs' => set_back (hn j' hj' hs')
  · by_cases hne : j = i
    · subst hne
      rw [hk] at hkj
      cases hkj
      simp [Hp.set_same]
    · have hl : lab' ≠ lab := by
        have h3 := hkf' j hj hne
        rw [hkj] at h3; exact bne h3
      rw [Hp.set_ne _ _ hl]
      exact I.rowS j lab' b0' ty' cs' rest' hj hkj (set_ne hne hL)
end

section
variable {P : Program} {E : Env} {l : List Oper} {ks : List OK} {fr : Fr} {H : Hp} {Q : Exit → Act → World → Prop}
def dstLt (l : List Oper) (n : Nat) : Bool := l.all fun o => match o.dst with
  | some d => Nat.blt d n
  | none => true
theorem ord_go (hB : okO l ks = true) (hn : dstLt l E.n = true) (hg : (l.all fun o => o.guard.isNone) = true)
    (hs : ∀ i, i < l.length → ∀ L A fr' H', OInv l ks fr H L A fr' H' → ORdy l L i → OGoal P E fr' H' A (l.getD i default) (ks.getD i default))
    (h : ∀ A L fr' H', OInv l ks fr H L A fr' H' → (∀ j, j < l.length → L.getD j false = true) → At E fr' H' (Q .normal)) :
    ∀ (f : Nat) (L : Array Bool) A fr' H' a w, L.size = l.length → (∀ j, j < l.length → L.getD j false = true → ∀ e ∈ onsB (l.getD j default), L.getD e false = true) → (List.range l.length).countP (fun j => !L.getD j false) = f →
      OInv l ks fr H L A fr' H' → Rep E fr' H' a w → wpAny P .any l.toArray Q f L a w := by
  obtain ⟨hlen, hj⟩ := okO_spec hB
  have rdy : ∀ {L : Array Bool} {i : Nat}, L.size = l.length → i < l.length → L.getD i false = false → (∀ e ∈ onsB (l.getD i default), L.getD e false = true) → i ∈ Region.ready .any l.toArray L := fun {L i} hsz hi hL hons => by
    refine mem_ready.2 ⟨getD_in (by omega) hL, _, at_op hi, fun e he hb => hons e.on ?_⟩
    unfold onsB
    exact List.mem_map.2 ⟨e, List.mem_filter.2 ⟨by simpa using he, hb⟩, rfl⟩
  have ofrdy : ∀ {L : Array Bool} {i : Nat}, i ∈ Region.ready .any l.toArray L → i < l.length ∧ L.getD i false = false ∧ (∀ e ∈ onsB (l.getD i default), L.getD e false = true) := fun {L i} hr => by
    obtain ⟨h1, o, ho, h2⟩ := mem_ready.1 hr
    have hi : i < l.length := by simpa using (Array.getElem?_eq_some_iff.1 ho).1
    have : o = l.getD i default := Option.some.inj (ho.symm.trans (at_op hi))
    subst this
    refine ⟨hi, getD_both h1, fun e he => ?_⟩
    unfold onsB at he
    obtain ⟨x, hx, rfl⟩ := List.mem_map.1 he
    obtain ⟨hx1, hx2⟩ := List.mem_filter.1 hx
    exact h2 x (by simpa using hx1) hx2
  intro f
  induction f with
  | zero =>
    intro L A fr' H' a w hsz hcl hc I R
    have hall : ∀ j, j < l.length → L.getD j false = true := fun j hjl => by
      have := List.countP_eq_zero.1 hc j (List.mem_range.2 hjl)
      simpa using this
    refine ⟨List.eq_nil_iff_forall_not_mem.2 fun i hi => ?_, h A L fr' H' I hall a w R⟩
    obtain ⟨h1, h2, _⟩ := ofrdy hi
    rw [hall i h1] at h2; cases h2
  | succ f ih =>
    intro L A fr' H' a w hsz hcl hc I R
    refine ⟨fun h0 => ?_, fun i hi => ?_⟩
    · exfalso
      have : ∃ j, j < l.length ∧ L.getD j false = false := by
        have h1 : 0 < (List.range l.length).countP (fun j => !L.getD j false) := by omega
        obtain ⟨j, hj1, hj2⟩ := List.countP_pos_iff.1 h1
        exact ⟨j, List.mem_range.1 hj1, by simpa using hj2⟩
      obtain ⟨j, hj1, hj2⟩ := this
      obtain ⟨i, hi1, hi2, hi3⟩ := least (f := fun j => L.getD j false) j hj2
      have := rdy hsz (by omega : i < l.length) hi2 (fun e he => hi3 e ((hj i (by omega)).1 e he))
      rw [h0] at this
      cases this
    · obtain ⟨hil, hLi, hons⟩ := ofrdy hi
      obtain ⟨hlt1, hdf, hkf⟩ := hj i hil
      have RD : ORdy l L i := ⟨fun j hjl hLj e he => ⟨hcl j hjl hLj e he, Nat.lt_trans ((hj j hjl).1 e he) hjl⟩, hil, hLi, fun e he => ⟨hons e he, Nat.lt_trans (hlt1 e he) hil⟩⟩
      have hG := hs i hil L A fr' H' I RD
      have hmem : l.getD i default ∈ l := by simp [hil]
      have hgi : (l.getD i default).guard = none := by
        have := List.all_eq_true.1 hg _ hmem
        simpa using this
      have hdl : ∀ d, (l.getD i default).dst = some d → d < E.n := fun d hd => by
        have := List.all_eq_true.1 hn _ hmem
        rw [hd] at this
        simpa using this
      have hcl' : ∀ j, j < l.length → (L.setIfInBounds i true).getD j false = true → ∀ e ∈ onsB (l.getD j default), (L.setIfInBounds i true).getD e false = true := fun j hjl hLj e he => by
        by_cases hne : j = i
        · subst hne; exact getD_set_true (hons e he)
        · exact getD_set_true (hcl j hjl (set_ne hne hLj) e he)
      have hc' : (List.range l.length).countP (fun j => !(L.setIfInBounds i true).getD j false) = f := by
        have := cnt_one (f := fun j => !L.getD j false) (g := fun j => !(L.setIfInBounds i true).getD j false) (i := i) (by simp [hLi]) (by rw [set_at (by omega)]; rfl) (fun j hne => by rw [getD_set_ne false (Ne.symm hne)]) l.length hil
        omega
      have hsz' : (L.setIfInBounds i true).size = l.length := by simpa using hsz
      unfold wpOp
      rw [at_op hil]
      simp only [Region.wanted, hgi, if_true]
      refine Or.inl ?_
      cases hk : ks.getD i default with
      | q v =>
        rw [hk] at hG
        refine RG.wp_monoQ (fun a' w'' ⟨e, hE⟩ => ?_) (fun _ _ _ h => h.elim) (fun ⟨_, _, h⟩ => h.elim) (hG a w R)
        subst e
        exact ih _ A _ H' _ _ hsz' hcl' hc' (I.q hil hdf hk hdl) ((R.put _ v).below hE)
      | al lab ty cs =>
        rw [hk] at hG
        obtain ⟨z, ho, hz, hzc⟩ := hG
        refine RG.wp_monoQ (fun a' w'' ⟨_, fr2, H2, ⟨b, e1, e2⟩, R2⟩ => ?_) (fun _ _ _ h => h.elim) (fun ⟨_, _, h⟩ => h.elim)
          (S_alloc (K := fun f h => ∃ b, f = fr'.put E.n (l.getD i default).dst (.pointer (some ⟨b, 0, none⟩)) ∧ h = H'.set lab ⟨true, b, 0, ty, cs, 0⟩) _ lab ho hz hzc (fun b => ⟨b, rfl, rfl⟩) rfl a w R)
        subst e1 e2
        exact ih _ _ _ _ _ _ hsz' hcl' hc' (I.al RD (by omega) hdf hkf hk hdl b) R2
      | st lab b0 ty cs rest =>
        rw [hk] at hG
        refine RG.wp_monoQ (fun a' w'' ⟨_, fr2, H2, ⟨e1, e2⟩, R2⟩ => ?_) (fun _ _ _ h => h.elim) (fun ⟨_, _, h⟩ => h.elim) (hG a w R)
        subst e1 e2
        exact ih _ A _ _ _ _ hsz' hcl' hc' (I.st hil (by omega) hkf hk) R2
/-- A REGION THAT DRAWS ITS ORDER, WHATEVER THE ORDER. -/
theorem At.ord {id : Nat} (ks : List OK) (is : List Nat) (hm : P.follows .mixedOrders = true) (hB : okO l ks = true) (hn : dstLt l E.n = true) (hg : (l.all fun o => o.guard.isNone) = true) (his : List.range l.length = is)
    (hs : AllL (fun i => ∀ L A fr' H', OInv l ks fr H L A fr' H' → ORdy l L i → OGoal P E fr' H' A (l.getD i default) (ks.getD i default)) is)
    (h : ∀ A : Nat → Nat, At E (ovr A l ks fr) (hovr A ks H) (Q .normal)) : At E fr H ((Code.region id l.toArray true).wp P Q) := by
  intro a w R
  obtain ⟨hlen, hj⟩ := okO_spec hB
  refine wp_region_any hm ?_
  have h0 : ∀ j, (Array.replicate l.length false).getD j false = false := fun j => by
    by_cases hj : j < l.length
    · simp [hj]
    · simp [Array.getElem?_eq_none (xs := Array.replicate l.length false) (i := j) (by simp; omega)]
  refine ord_go hB hn hg (fun i hi => hs.mem i (by rw [← his]; exact List.mem_range.2 hi)) (fun A L fr' H' I hall => At.weak (fun s v hv => ?_) (fun k r hr => ?_) (h A)) l.length (Array.replicate l.length false) (fun _ => 0) fr H a w.drew (by simp) (fun j _ hL => absurd ((h0 j).symm.trans hL) (by simp)) (by
      rw [List.countP_eq_length.2 (fun j _ => by rw [h0]; rfl)]; simp) ⟨fun s v hv _ => hv, fun j d v _ hL => absurd ((h0 j).symm.trans hL) (by simp), fun k r hr _ => hr, fun j lab ty cs _ _ hL => absurd ((h0 j).symm.trans hL) (by simp), fun j lab b0 ty cs rest _ _ hL => absurd ((h0 j).symm.trans hL) (by simp)⟩ R.drew
  · rcases ovr_some hlen hv with ⟨j, h1, h2, h3⟩ | ⟨h1, h2⟩
    · exact I.done j s v h1 (hall j h1) h2 h3
    · exact I.init s v h1 h2
  · unfold hovr at hr
    split at hr
    · rename_i r' h1
      cases hr
      obtain ⟨j, b0, ty, cs, rest, h2, h3, rfl⟩ := stR_some h1
      exact I.rowS j k b0 ty cs rest (by omega) h3 (hall j (by omega))
    · rename_i h1
      have hst := stR_none h1
      split at hr
      · rename_i r' h2
        cases hr
        obtain ⟨j, ty, cs, h3, h4, rfl⟩ := alR_some h2
        exact I.rowA j k ty cs (by omega) h4 (hall j (by omega)) fun j' _ hs => by rw [hst j'] at hs; cases hs
      · rename_i h2
        have hal := alR_none h2
        refine I.row0 k r hr fun j _ ht => ?_
        rcases ht with ht | ht
        · rw [hal j] at ht; cases ht
        · rw [hst j] at ht; cases ht
end
end SE
end Go
