import Derived.KernelRfl
import Derived.Test.YtdingfinclcbgaaG0
/- A region that draws its order, whatever the order: what each operation makes, each told once. Generic (no program). -/
namespace Go
namespace SE
open Go.RowKit
set_option linter.unusedVariables false
set_option linter.unusedSimpArgs false
/-- What an operation makes: a value; a new row; a row's cells. -/
inductive OK where
 | q (v : Value)
 | al (lab : Nat) (ty : TypeId) (cs : List Value)
 | st (lab : Nat) (b0 : Option Nat) (ty : TypeId) (cs : List Value) (rest : Nat)
instance : Inhabited OK := ⟨.q undef⟩
def bOf (A : Nat → Nat) (lab : Nat) : Option Nat → Nat
 | some b => b
 | none => A lab
def OK.val (A : Nat → Nat) : OK → Option Value
 | .q v => some v
 | .al lab _ _ => some (.pointer (some ⟨A lab, 0, none⟩))
 | .st _ _ _ _ _ => none
def OK.isAl (k : Nat) : OK → Bool
 | .al lab _ _ => Nat.beq lab k
 | _ => false
def OK.isSt (k : Nat) : OK → Bool
 | .st lab _ _ _ _ => Nat.beq lab k
 | _ => false
def onsB (o : Oper) : List Nat := (o.after.toList.filter (Region.binds .any)).map (·.on)
def ancB (l : List Oper) : Nat → Nat → Nat → Bool
 | 0, _, _ => false
 | f + 1, j, i => (onsB (l.getD j default)).any fun e => Nat.beq e i || ancB l f e i
def isDst (o : Oper) (s : Nat) : Bool := match o.dst with
 | some d => Nat.beq d s
 | none => false
def dstB (l : List Oper) (s : Nat) : Bool := l.any fun o => isDst o s
def dstFree (l : List Oper) (j : Nat) : Bool := match (l.getD j default).dst with
 | none => true
 | some d => (List.range l.length).all fun j' => Nat.beq j' j || !isDst (l.getD j' default) d
def kindFree (l : List Oper) (ks : List OK) (j : Nat) : Bool := match ks.getD j default with
 | .q _ => true
 | .al lab _ _ => (List.range l.length).all fun j' => (Nat.beq j' j || !(ks.getD j' default).isAl lab) && (!(ks.getD j' default).isSt lab || (match ks.getD j' default with
  | .st _ none _ _ _ => ancB l l.length j' j
  | _ => false))
 | .st lab b0 _ _ _ => (l.getD j default).dst.isNone && (List.range l.length).all fun j' => Nat.beq j' j || !(ks.getD j' default).isSt lab
structure OInv (l : List Oper) (ks : List OK) (fr : Fr) (H : Hp) (L : Array Bool) (A : Nat → Nat) (fr' : Fr) (H' : Hp) : Prop where
 init : ∀ s v, fr s = some v → dstB l s = false → fr' s = some v
 done : ∀ j d v, j < l.length → L.getD j false = true → (l.getD j default).dst = some d → (ks.getD j default).val A = some v → fr' d = some v
 row0 : ∀ k r, H k = some r → (∀ j, j < l.length → (ks.getD j default).isAl k = true ∨ (ks.getD j default).isSt k = true → L.getD j false = false) → H' k = some r
 rowA : ∀ j lab ty cs, j < l.length → ks.getD j default = .al lab ty cs → L.getD j false = true → (∀ j', j' < l.length → (ks.getD j' default).isSt lab = true → L.getD j' false = false) → H' lab = some ⟨true, A lab, 0, ty, cs, 0⟩
 rowS : ∀ j lab b0 ty cs rest, j < l.length → ks.getD j default = .st lab b0 ty cs rest → L.getD j false = true → H' lab = some ⟨true, bOf A lab b0, 0, ty, cs, rest⟩
structure ORdy (l : List Oper) (L : Array Bool) (i : Nat) : Prop where
 closed : ∀ j, j < l.length → L.getD j false = true → ∀ e ∈ onsB (l.getD j default), L.getD e false = true ∧ e < l.length
 lt : i < l.length
 un : L.getD i false = false
 ons : ∀ e ∈ onsB (l.getD i default), L.getD e false = true ∧ e < l.length

theorem anc_listed {l : List Oper} {L : Array Bool} (hc : ∀ j, j < l.length → L.getD j false = true → ∀ e ∈ onsB (l.getD j default), L.getD e false = true ∧ e < l.length) :
  ∀ (f j i : Nat), (∀ e ∈ onsB (l.getD j default), L.getD e false = true ∧ e < l.length) → ancB l f j i = true → L.getD i false = true
 | 0, j, i, _, h => by simp [ancB] at h
 | f + 1, j, i, ho, h => by
  unfold ancB at h
  obtain ⟨e, he, h⟩ := List.any_eq_true.1 h
  rcases Bool.or_eq_true_iff.1 h with h | h
  · rw [← Nat.eq_of_beq_eq_true h]; exact (ho e he).1
  · exact anc_listed hc f e i (hc e (ho e he).2 (ho e he).1) h

section
variable {l : List Oper} {ks : List OK} {fr fr' : Fr} {H H' : Hp} {L : Array Bool} {A : Nat → Nat} {i : Nat}
theorem ORdy.not (R : ORdy l L i) {j : Nat} (hj : j < l.length) (h : (Nat.beq j i || ancB l l.length j i) = true) : L.getD j false = false := by
 rcases Bool.or_eq_true_iff.1 h with h | h
 · rw [Nat.eq_of_beq_eq_true h]; exact R.un
 ·
  cases hL : L.getD j false with
  | false => rfl
  | true =>
   have h1 := anc_listed R.closed _ _ _ (R.closed j hj hL) h
   rw [R.un] at h1; cases h1
end

/-- A step that yields a value and leaves what was there. -/
def OStep (P : Program) (E : Env) (fr : Fr) (H : Hp) (o : Oper) (v : Value) : Prop := ∀ a w, Rep E fr H a w → o.wp P a w (fun a' w' => a' = a.put o.dst v ∧ RG.Ext w w') (fun _ _ _ => False)
theorem QStep.o {P : Program} {E : Env} {fr : Fr} {H : Hp} {o : Oper} {v : Value} (h : QStep P E fr H o v) : OStep P E fr H o v := fun a w R => by
 unfold Oper.wp
 rw [h a w R]
 exact ⟨rfl, RG.Ext.refl w⟩
theorem PStep.o {P : Program} {E : Env} {fr : Fr} {H : Hp} {o : Oper} {v : Value} (h : PStep P fr o v) : OStep P E fr H o v := h.q.o
theorem OStep.weak {P : Program} {E : Env} {fr : Fr} {H : Hp} {o : Oper} {v : Value} {sl : List (Nat × Value)} {rw_ : List (Nat × Row)} (hs : AllL (fun p => fr p.1 = some p.2) sl) (hr : AllL (fun p => H p.1 = some p.2) rw_) (h : OStep P E (frOf sl) (hOf rw_) o v) : OStep P E fr H o v :=
 At.weak (T := fun a w => o.wp P a w (fun a' w' => a' = a.put o.dst v ∧ RG.Ext w w') (fun _ _ _ => False)) (frOf_le hs.mem) (hOf_le hr.mem) h
/-- What is owed of an operation. -/
def OGoal (P : Program) (E : Env) (fr : Fr) (H : Hp) (A : Nat → Nat) (o : Oper) : OK → Prop
 | .q v => OStep P E fr H o v
 | .al _ ty cs => ∃ z, o.op = .alloc ty ∧ tze P ty = some z ∧ z.cells.toList = cs
 | .st lab b0 ty cs rest => SStep P E true fr H o fun fr' H' => fr' = fr ∧ H' = H.set lab ⟨true, bOf A lab b0, 0, ty, cs, rest⟩

theorem OGoal.q {P : Program} {E : Env} {fr : Fr} {H : Hp} {A : Nat → Nat} {o : Oper} {k : OK} {v : Value} (hk : k = .q v) (h : OStep P E fr H o v) : OGoal P E fr H A o k := by subst hk; exact h
theorem OGoal.al {P : Program} {E : Env} {fr : Fr} {H : Hp} {A : Nat → Nat} {o : Oper} {k : OK} {lab : Nat} {ty : TypeId} {cs : List Value} {z : Value} (hk : k = .al lab ty cs) (ho : o.op = .alloc ty) (hz : tze P ty = some z) (hc : z.cells.toList = cs) : OGoal P E fr H A o k := by subst hk; exact ⟨z, ho, hz, hc⟩
theorem OGoal.st {P : Program} {E : Env} {fr : Fr} {H : Hp} {A : Nat → Nat} {o : Oper} {k : OK} {lab : Nat} {b0 : Option Nat} {ty : TypeId} {cs : List Value} {rest : Nat} (hk : k = .st lab b0 ty cs rest) (h : SStep P E true fr H o fun fr' H' => fr' = fr ∧ H' = H.set lab ⟨true, bOf A lab b0, 0, ty, cs, rest⟩) : OGoal P E fr H A o k := by subst hk; exact h

def stR (A : Nat → Nat) (k : Nat) : List OK → Option Row
 | [] => none
 | .st lab b0 ty cs rest :: ks => match Nat.beq lab k with
  | true => some ⟨true, bOf A lab b0, 0, ty, cs, rest⟩
  | false => stR A k ks
 | _ :: ks => stR A k ks
def alR (A : Nat → Nat) (k : Nat) : List OK → Option Row
 | [] => none
 | .al lab ty cs :: ks => match Nat.beq lab k with
  | true => some ⟨true, A lab, 0, ty, cs, 0⟩
  | false => alR A k ks
 | _ :: ks => alR A k ks
def hovr (A : Nat → Nat) (ks : List OK) (H : Hp) : Hp := fun k => match stR A k ks with
 | some r => some r
 | none => match alR A k ks with
  | some r => some r
  | none => H k

theorem stR_some {A : Nat → Nat} {k : Nat} {r : Row} : ∀ {ks : List OK}, stR A k ks = some r → ∃ j b0 ty cs rest, j < ks.length ∧ ks.getD j default = .st k b0 ty cs rest ∧ r = ⟨true, bOf A k b0, 0, ty, cs, rest⟩
 | [], h => by simp [stR] at h
 | .st lab b0 ty cs rest :: ks, h => by
  unfold stR at h
  split at h
  ·
   rename_i hb
   have hb := Nat.eq_of_beq_eq_true hb
   subst hb
   exact ⟨0, b0, ty, cs, rest, by simp, by simp, (Option.some.inj h).symm⟩
  ·
   obtain ⟨j, b1, ty', cs', rest', h1, h2, h3⟩ := stR_some h
   exact ⟨j + 1, b1, ty', cs', rest', by simpa using h1, by simpa using h2, h3⟩
 | .q _ :: ks, h => by
  obtain ⟨j, b1, ty', cs', rest', h1, h2, h3⟩ := stR_some (ks := ks) h
  exact ⟨j + 1, b1, ty', cs', rest', by simpa using h1, by simpa using h2, h3⟩
 | .al _ _ _ :: ks, h => by
  obtain ⟨j, b1, ty', cs', rest', h1, h2, h3⟩ := stR_some (ks := ks) h
  exact ⟨j + 1, b1, ty', cs', rest', by simpa using h1, by simpa using h2, h3⟩
theorem alR_some {A : Nat → Nat} {k : Nat} {r : Row} : ∀ {ks : List OK}, alR A k ks = some r → ∃ j ty cs, j < ks.length ∧ ks.getD j default = .al k ty cs ∧ r = ⟨true, A k, 0, ty, cs, 0⟩
 | [], h => by simp [alR] at h
 | .al lab ty cs :: ks, h => by
  unfold alR at h
  split at h
  ·
   rename_i hb
   have hb := Nat.eq_of_beq_eq_true hb
   subst hb
   exact ⟨0, ty, cs, by simp, by simp, (Option.some.inj h).symm⟩
  ·
   obtain ⟨j, ty', cs', h1, h2, h3⟩ := alR_some h
   exact ⟨j + 1, ty', cs', by simpa using h1, by simpa using h2, h3⟩
 | .q _ :: ks, h => by
  obtain ⟨j, ty', cs', h1, h2, h3⟩ := alR_some (ks := ks) h
  exact ⟨j + 1, ty', cs', by simpa using h1, by simpa using h2, h3⟩
 | .st _ _ _ _ _ :: ks, h => by
  obtain ⟨j, ty', cs', h1, h2, h3⟩ := alR_some (ks := ks) h
  exact ⟨j + 1, ty', cs', by simpa using h1, by simpa using h2, h3⟩
section
variable {l : List Oper} {ks : List OK} {fr fr' : Fr} {H H' : Hp} {L : Array Bool} {A : Nat → Nat} {i : Nat} {n : Nat}
theorem dstFree_ne {d : Nat} (h : dstFree l i = true) (hi : (l.getD i default).dst = some d) {j : Nat} (hj : j < l.length) (hne : j ≠ i) : (l.getD j default).dst ≠ some d := by
 unfold dstFree at h
 rw [hi] at h
 have h1 := List.all_eq_true.1 h j (List.mem_range.2 hj)
 rw [bnf hne, Bool.false_or] at h1
 intro he
 unfold isDst at h1
 rw [he] at h1
 simp at h1
theorem put_same {d : Nat} {v : Value} (hd : d < n) : Fr.put n fr (some d) v d = some v := by
 have : Nat.blt d n = true := by simpa using hd
 simp [Fr.put, this]
theorem put_ne {d s : Nat} {v : Value} (hd : s ≠ d) : Fr.put n fr (some d) v s = fr s := by simp [Fr.put, bnf hd]
theorem set_back {j : Nat} (h : (L.setIfInBounds i true).getD j false = false) : L.getD j false = false := by
 cases hL : L.getD j false with
 | false => rfl
 | true => rw [getD_set_true hL] at h; cases h
theorem set_ne {j : Nat} (hne : j ≠ i) (h : (L.setIfInBounds i true).getD j false = true) : L.getD j false = true := by rwa [getD_set_ne false (Ne.symm hne)] at h
theorem set_at (hi : i < L.size) : (L.setIfInBounds i true).getD i false = true := by simp [hi]

/-- The frame's part of a step. -/
theorem OInv.fr_step (I : OInv l ks fr H L A fr' H') {A' : Nat → Nat} (hi : i < l.length) (hdf : dstFree l i = true) (v : Value) (hv : (l.getD i default).dst.isSome = true → (ks.getD i default).val A' = some v) (hlt : ∀ d, (l.getD i default).dst = some d → d < n)
  (hA : ∀ j, j < l.length → j ≠ i → (ks.getD j default).val A' = (ks.getD j default).val A) :
  (∀ s v', fr s = some v' → dstB l s = false → fr'.put n (l.getD i default).dst v s = some v') ∧
  (∀ j d v', j < l.length → (L.setIfInBounds i true).getD j false = true → (l.getD j default).dst = some d → (ks.getD j default).val A' = some v' → fr'.put n (l.getD i default).dst v d = some v') := by
 cases hd : (l.getD i default).dst with
 | none =>
  refine ⟨fun s v' h1 h2 => I.init s v' h1 h2, fun j d v' hj hL hjd hjv => ?_⟩
  have hne : j ≠ i := fun e => by subst e; rw [hd] at hjd; cases hjd
  exact I.done j d v' hj (set_ne hne hL) hjd (by rw [← hA j hj hne]; exact hjv)
 | some d =>
  refine ⟨fun s v' h1 h2 => ?_, fun j d' v' hj hL hjd hjv => ?_⟩
  ·
   rw [put_ne]
   · exact I.init s v' h1 h2
   ·
    rintro rfl
    have h3 : dstB l s = true := by
     unfold dstB
     refine List.any_eq_true.2 ⟨l.getD i default, ?_, ?_⟩
     · simp [hi]
     · unfold isDst; rw [hd]; simp
    rw [h2] at h3; cases h3
  ·
   by_cases hne : j = i
   ·
    subst hne
    rw [hd] at hjd
    cases hjd
    have h4 := hv (by rw [hd]; rfl)
    rw [hjv] at h4
    rw [put_same (hlt _ hd)]
    exact h4.symm
   ·
    rw [put_ne]
    · exact I.done j d' v' hj (set_ne hne hL) hjd (by rw [← hA j hj hne]; exact hjv)
    ·
     rintro rfl
     exact dstFree_ne hdf hd hj hne hjd
theorem OInv.q (I : OInv l ks fr H L A fr' H') (hi : i < l.length) (hdf : dstFree l i = true) {v : Value} (hk : ks.getD i default = .q v) (hlt : ∀ d, (l.getD i default).dst = some d → d < n) :
  OInv l ks fr H (L.setIfInBounds i true) A (fr'.put n (l.getD i default).dst v) H' := by
 obtain ⟨h1, h2⟩ := I.fr_step (A' := A) hi hdf v (fun _ => by rw [hk]; rfl) hlt (fun _ _ _ => rfl)
 refine ⟨h1, h2, fun k r hr hj => I.row0 k r hr fun j hj' ht => set_back (hj j hj' ht), fun j lab ty cs hj hkj hL hn => ?_, fun j lab b0 ty cs rest hj hkj hL => ?_⟩
 ·
  have hne : j ≠ i := fun e => by subst e; rw [hk] at hkj; cases hkj
  exact I.rowA j lab ty cs hj hkj (set_ne hne hL) fun j' hj' hs => set_back (hn j' hj' hs)
 ·
  have hne : j ≠ i := fun e => by subst e; rw [hk] at hkj; cases hkj
  exact I.rowS j lab b0 ty cs rest hj hkj (set_ne hne hL)
theorem OInv.al (I : OInv l ks fr H L A fr' H') (R : ORdy l L i) (hs : i < L.size) (hdf : dstFree l i = true) (hkf : kindFree l ks i = true) {lab : Nat} {ty : TypeId} {cs : List Value} (hk : ks.getD i default = .al lab ty cs) (hlt : ∀ d, (l.getD i default).dst = some d → d < n) (b : Nat) :
  OInv l ks fr H (L.setIfInBounds i true) (fun k => if k = lab then b else A k) (fr'.put n (l.getD i default).dst (.pointer (some ⟨b, 0, none⟩))) (H'.set lab ⟨true, b, 0, ty, cs, 0⟩) := by
 have hi := R.lt
 unfold kindFree at hkf
 rw [hk] at hkf
 have hkf' : ∀ j, j < l.length → (j = i ∨ (ks.getD j default).isAl lab = false) ∧ ((ks.getD j default).isSt lab = true → L.getD j false = false) := fun j hj => by
  have h1 := List.all_eq_true.1 hkf j (List.mem_range.2 hj)
  rw [Bool.and_eq_true] at h1
  refine ⟨?_, fun hst => ?_⟩
  ·
   rcases Bool.or_eq_true_iff.1 h1.1 with h2 | h2
   · exact .inl (Nat.eq_of_beq_eq_true h2)
   · exact .inr (by simpa using h2)
  ·
   rw [hst, Bool.not_true, Bool.false_or] at h1
   refine R.not hj ?_
   rw [Bool.or_eq_true]
   refine Or.inr ?_
   have h3 := h1.2
   split at h3
   · exact h3
   · cases h3
 have hA : ∀ j, j < l.length → j ≠ i → (ks.getD j default).val (fun k => if k = lab then b else A k) = (ks.getD j default).val A := fun j hj hne => by
  rcases (hkf' j hj).1 with h1 | h1
  · exact absurd h1 hne
  ·
   cases hkj : ks.getD j default with
   | q v => rfl
   | al lab' ty' cs' =>
    rw [hkj] at h1
    have : lab' ≠ lab := bne h1
    simp [OK.val, this]
   | st => rfl
 obtain ⟨h1, h2⟩ := I.fr_step (A' := fun k => if k = lab then b else A k) hi hdf (.pointer (some ⟨b, 0, none⟩)) (fun _ => by rw [hk]; simp [OK.val]) hlt hA
 have hthis : (L.setIfInBounds i true).getD i false = true := set_at hs
 refine ⟨h1, h2, fun k r hr hj => ?_, fun j lab' ty' cs' hj hkj hL hn => ?_, fun j lab' b0 ty' cs' rest hj hkj hL => ?_⟩
 ·
  have hne : k ≠ lab := by
   rintro rfl
   have := hj i hi (.inl (by rw [hk]; simp [OK.isAl]))
   rw [hthis] at this; cases this
  rw [Hp.set_ne _ _ hne]
  exact I.row0 k r hr fun j hj' ht => set_back (hj j hj' ht)
 ·
  by_cases hne : j = i
  ·
   subst hne
   rw [hk] at hkj
   cases hkj
   simp [Hp.set_same]
  ·
   have hl : lab' ≠ lab := by
    rcases (hkf' j hj).1 with h3 | h3
    · exact absurd h3 hne
    · rw [hkj] at h3; exact bne h3
   rw [Hp.set_ne _ _ hl]
   simp only [hl, if_false]
   exact I.rowA j lab' ty' cs' hj hkj (set_ne hne hL) fun j' hj' hs' => set_back (hn j' hj' hs')
 ·
  have hne : j ≠ i := fun e => by subst e; rw [hk] at hkj; cases hkj
  have hLj := set_ne hne hL
  have hl : lab' ≠ lab := by
   rintro rfl
   have := (hkf' j hj).2 (by rw [hkj]; simp [OK.isSt])
   rw [hLj] at this; cases this
  rw [Hp.set_ne _ _ hl]
  have := I.rowS j lab' b0 ty' cs' rest hj hkj hLj
  cases b0 with
  | some b1 => exact this
  | none => simpa [bOf, hl] using this
theorem OInv.st (I : OInv l ks fr H L A fr' H') (hi : i < l.length) (hs : i < L.size) (hkf : kindFree l ks i = true) {lab : Nat} {b0 : Option Nat} {ty : TypeId} {cs : List Value} {rest : Nat} (hk : ks.getD i default = .st lab b0 ty cs rest) :
  OInv l ks fr H (L.setIfInBounds i true) A fr' (H'.set lab ⟨true, bOf A lab b0, 0, ty, cs, rest⟩) := by
 unfold kindFree at hkf
 rw [hk] at hkf
 rw [Bool.and_eq_true] at hkf
 have hdn : (l.getD i default).dst = none := by
  cases hd : (l.getD i default).dst with
  | none => rfl
  | some d => rw [hd] at hkf; simp at hkf
 have hkf' : ∀ j, j < l.length → j ≠ i → (ks.getD j default).isSt lab = false := fun j hj hne => by
  have h1 := List.all_eq_true.1 hkf.2 j (List.mem_range.2 hj)
  rw [bnf hne, Bool.false_or] at h1
  simpa using h1
 have hthis : (L.setIfInBounds i true).getD i false = true := set_at hs
 refine ⟨I.init, fun j d v hj hL hjd hjv => ?_, fun k r hr hj => ?_, fun j lab' ty' cs' hj hkj hL hn => ?_, fun j lab' b0' ty' cs' rest' hj hkj hL => ?_⟩
 ·
  have hne : j ≠ i := fun e => by subst e; rw [hdn] at hjd; cases hjd
  exact I.done j d v hj (set_ne hne hL) hjd hjv
 ·
  have hne : k ≠ lab := by
   rintro rfl
   have := hj i hi (.inr (by rw [hk]; simp [OK.isSt]))
   rw [hthis] at this; cases this
  rw [Hp.set_ne _ _ hne]
  exact I.row0 k r hr fun j hj' ht => set_back (hj j hj' ht)
 ·
  have hne : j ≠ i := fun e => by subst e; rw [hk] at hkj; cases hkj
  have hl : lab' ≠ lab := by
   rintro rfl
   have := hn i hi (by rw [hk]; simp [OK.isSt])
   rw [hthis] at this; cases this
  rw [Hp.set_ne _ _ hl]
  exact I.rowA j lab' ty' cs' hj hkj (set_ne hne hL) fun j' hj' hs' => set_back (hn j' hj' hs')
 ·
  by_cases hne : j = i
  ·
   subst hne
   rw [hk] at hkj
   cases hkj
   simp [Hp.set_same]
  ·
   have hl : lab' ≠ lab := by
    have h3 := hkf' j hj hne
    rw [hkj] at h3; exact bne h3
   rw [Hp.set_ne _ _ hl]
   exact I.rowS j lab' b0' ty' cs' rest' hj hkj (set_ne hne hL)
end

section
variable {P : Program} {E : Env} {l : List Oper} {ks : List OK} {fr : Fr} {H : Hp} {Q : Exit → Act → World → Prop}
end
end SE
end Go


/- Families of rows: row i under the label b + 16 * i, for the i that D allows. -/
namespace Go
namespace SE
open Go.RowKit
set_option linter.unusedVariables false
set_option linter.unusedSimpArgs false
structure Fam where
 b : Nat
 D : Nat → Bool
 F : Nat → Row
def lf (b i : Nat) : Nat := b + 16 * i
/-- Is the label one of the family's? -/
def Fam.has (f : Fam) (k : Nat) : Bool := Nat.ble f.b k && Nat.beq ((k - f.b) % 16) 0 && f.D ((k - f.b) / 16)
def famsOf (H : Hp) : List Fam → Hp
 | [] => H
 | f :: l => fun k => match f.has k with
  | true => some (f.F ((k - f.b) / 16))
  | false => famsOf H l k
def dlt (m i : Nat) : Bool := Nat.blt i m
def dbut (m j i : Nat) : Bool := Nat.blt i m && !Nat.beq i j
theorem beq_f (i j : Nat) : (Nat.beq i j = false) = ¬ (i = j) := propext ⟨fun h => bne h, fun h => bnf h⟩
theorem dlt_iff {m i : Nat} : dlt m i = true ↔ i < m := by simp [dlt]
theorem dbut_iff {m j i : Nat} : dbut m j i = true ↔ i < m ∧ i ≠ j := by simp [dbut, beq_f]
theorem lf_idx (b i : Nat) : (lf b i - b) / 16 = i := by unfold lf; omega
theorem lf_inj {b i j : Nat} (h : lf b i = lf b j) : i = j := by unfold lf at h; omega
theorem has_lf (f : Fam) (i : Nat) : f.has (lf f.b i) = f.D i := by
 unfold Fam.has
 rw [lf_idx, Nat.ble_eq_true_of_le (show f.b ≤ lf f.b i by unfold lf; omega)]
 have : (lf f.b i - f.b) % 16 = 0 := by unfold lf; omega
 rw [this]
 rfl
theorem has_some {f : Fam} {k : Nat} (h : f.has k = true) : ∃ i, k = lf f.b i ∧ f.D i = true := by
 unfold Fam.has at h
 simp only [Bool.and_eq_true, Nat.ble_eq, Nat.beq_eq] at h
 refine ⟨(k - f.b) / 16, ?_, h.2⟩
 unfold lf
 omega
theorem has_low {f : Fam} {k : Nat} (h : Nat.blt k f.b = true) : f.has k = false := by
 cases hh : f.has k with
 | false => rfl
 | true =>
  obtain ⟨i, rfl, _⟩ := has_some hh
  simp only [Nat.blt_eq] at h
  unfold lf at h
  omega
theorem hOf_mem {k : Nat} {r : Row} : ∀ {m : List (Nat × Row)}, hOf m k = some r → ∃ p ∈ m, p.1 = k
 | [], h => nomatch h
 | (k0, r0) :: m, h => by
  cases hb : Nat.beq k k0 with
  | true => exact ⟨_, List.mem_cons_self, (Nat.eq_of_beq_eq_true hb).symm⟩
  | false =>
   have h1 : (match Nat.beq k k0 with | true => some r0 | false => hOf m k) = some r := h
   rw [hb] at h1
   obtain ⟨p, hp, e⟩ := hOf_mem h1
   exact ⟨p, List.mem_cons_of_mem _ hp, e⟩
/-- The family's rows are there. -/
def FamOk (H : Hp) (f : Fam) : Prop := ∀ i, f.D i = true → H (lf f.b i) = some (f.F i)
theorem FamOk.hd {H : Hp} {f : Fam} {l : List Fam} : FamOk (famsOf H (f :: l)) f := fun i hi => by
 show (match f.has (lf f.b i) with | true => some (f.F ((lf f.b i - f.b) / 16)) | false => _) = _
 rw [has_lf, hi, lf_idx]
theorem FamOk.tl {H : Hp} {f g : Fam} {l : List Fam} (hb : (Nat.ble f.b (g.b + 15) && Nat.ble g.b (f.b + 15) && !Nat.beq f.b g.b) = true) (h : FamOk (famsOf H l) f) : FamOk (famsOf H (g :: l)) f := fun i hi => by
 have hn : g.has (lf f.b i) = false := by
  cases hh : g.has (lf f.b i) with
  | false => rfl
  | true =>
   obtain ⟨j, hj, _⟩ := has_some hh
   simp [beq_f] at hb
   unfold lf at hj
   omega
 show (match g.has (lf f.b i) with | true => some (g.F ((lf f.b i - g.b) / 16)) | false => famsOf H l (lf f.b i)) = _
 rw [hn]
 exact h i hi
theorem FamOk.set {H : Hp} {f : Fam} {k : Nat} {r : Row} (hk : Nat.blt k f.b = true) (h : FamOk H f) : FamOk (H.set k r) f := fun i hi => by
 rw [Hp.set_ne]
 · exact h i hi
 ·
  simp only [Nat.blt_eq] at hk
  unfold lf
  omega
theorem FamOk.del {H : Hp} {f : Fam} {k : Nat} (hk : Nat.blt k f.b = true) (h : FamOk H f) : FamOk (H.del k) f := fun i hi => by
 unfold Hp.del
 have : Nat.beq (lf f.b i) k = false := bnf (by simp only [Nat.blt_eq] at hk; unfold lf; omega)
 rw [this]
 exact h i hi
theorem FamOk.nil {H : Hp} {b : Nat} {D : Nat → Bool} {F : Nat → Row} (h : ∀ i, D i = false) : FamOk H ⟨b, D, F⟩ := fun i hi => by
 have hi : D i = true := hi
 rw [h i] at hi
 cases hi
theorem FamOk.congr {H : Hp} {b : Nat} {D D' : Nat → Bool} {F F' : Nat → Row} (h : FamOk H ⟨b, D, F⟩) (hF : ∀ i, D' i = true → D i = true ∧ F' i = F i) : FamOk H ⟨b, D', F'⟩ := fun i hi => by
 have h1 := h i (hF i hi).1
 show H (lf b i) = some (F' i)
 rw [(hF i hi).2]
 exact h1
def ksLow (b : Nat) (ks : List OK) : Bool := ks.all fun k => match k with
 | .al lab _ _ => Nat.blt lab b
 | .st lab _ _ _ _ => Nat.blt lab b
 | _ => true
theorem hovr_high {A : Nat → Nat} {H : Hp} {b k : Nat} (hb : b ≤ k) : ∀ {ks : List OK}, ksLow b ks = true → hovr A ks H k = H k := by
 intro ks hl
 have h1 : stR A k ks = none := by
  cases hh : stR A k ks with
  | none => rfl
  | some r =>
   obtain ⟨j, b0, ty, cs, rest, h2, h3, _⟩ := stR_some hh
   have h4 := List.all_eq_true.1 hl (ks.getD j default) (by rw [List.getD_eq_getElem?_getD, List.getElem?_eq_getElem h2]; exact List.getElem_mem h2)
   rw [h3] at h4
   simp at h4
   omega
 have h2 : alR A k ks = none := by
  cases hh : alR A k ks with
  | none => rfl
  | some r =>
   obtain ⟨j, ty, cs, h2, h3, _⟩ := alR_some hh
   have h4 := List.all_eq_true.1 hl (ks.getD j default) (by rw [List.getD_eq_getElem?_getD, List.getElem?_eq_getElem h2]; exact List.getElem_mem h2)
   rw [h3] at h4
   simp at h4
   omega
 unfold hovr
 rw [h1, h2]
theorem FamOk.hovr {H : Hp} {f : Fam} {A : Nat → Nat} {ks : List OK} (hl : ksLow f.b ks = true) (h : FamOk H f) : FamOk (hovr A ks H) f := fun i hi => by
 rw [hovr_high (show f.b ≤ lf f.b i by unfold lf; omega) hl]
 exact h i hi
theorem FamOk.swap {H : Hp} {f : Fam} {i j : Nat} (hi : Nat.blt i f.b = true) (hj : Nat.blt j f.b = true) (h : FamOk H f) : FamOk (fun k => H (if k = i then j else if k = j then i else k)) f := fun q hq => by
 simp only [Nat.blt_eq] at hi hj
 have h1 : lf f.b q ≠ i := by unfold lf; omega
 have h2 : lf f.b q ≠ j := by unfold lf; omega
 show H (if lf f.b q = i then j else if lf f.b q = j then i else lf f.b q) = _
 rw [if_neg h1, if_neg h2]
 exact h q hq
theorem FamOk.emp {H : Hp} {f : Fam} (h : FamOk H f) : FamOk (famsOf H []) f := h
theorem FK {H : Hp} {f : Fam} (h : FamOk H f := by repeat (first | assumption | exact FamOk.hd | refine FamOk.set rfl ?_ | refine FamOk.del rfl ?_ | refine FamOk.tl rfl ?_ | refine FamOk.emp ?_ | refine FamOk.hovr (by kernel_rfl) ?_ | refine FamOk.swap rfl rfl ?_)) : FamOk H f := h
theorem famsOf_some {H : Hp} {k : Nat} {r : Row} : ∀ {l : List Fam}, famsOf H l k = some r → (∃ f ∈ l, ∃ i, f.D i = true ∧ k = lf f.b i ∧ r = f.F i) ∨ (∀ f ∈ l, f.has k = false) ∧ H k = some r
 | [], h => Or.inr ⟨fun _ hf => (by cases hf), h⟩
 | f :: l, h => by
  cases hh : f.has k with
  | true =>
   have h1 : famsOf H (f :: l) k = some (f.F ((k - f.b) / 16)) := by
    show (match f.has k with | true => _ | false => _) = _
    rw [hh]
   rw [h1] at h
   obtain ⟨i, rfl, hi⟩ := has_some hh
   rw [lf_idx] at h
   exact Or.inl ⟨f, List.mem_cons_self, i, hi, rfl, (Option.some.inj h).symm⟩
  | false =>
   have h1 : famsOf H (f :: l) k = famsOf H l k := by
    show (match f.has k with | true => _ | false => _) = _
    rw [hh]
   rw [h1] at h
   rcases famsOf_some h with ⟨g, hg, i, h2⟩ | ⟨h2, h3⟩
   · exact Or.inl ⟨g, List.mem_cons_of_mem _ hg, i, h2⟩
   ·
    refine Or.inr ⟨fun g hg => ?_, h3⟩
    rcases List.mem_cons.1 hg with rfl | hg
    · exact hh
    · exact h2 g hg
theorem famsOf_low {H : Hp} {k : Nat} : ∀ {l : List Fam}, (∀ f ∈ l, f.has k = false) → famsOf H l k = H k
 | [], _ => rfl
 | f :: l, h => by
  show (match f.has k with | true => _ | false => _) = _
  rw [h f List.mem_cons_self]
  exact famsOf_low fun g hg => h g (List.mem_cons_of_mem _ hg)
def LowK (b k : Nat) (p : Nat × Row) : Prop := (Nat.blt p.1 b && !Nat.beq p.1 k) = true
def FarF (b k : Nat) (f : Fam) : Prop := (Nat.ble f.b (b + 15) && Nat.ble b (f.b + 15) && !Nat.beq f.b b && Nat.blt k f.b) = true
section
variable {E : Env} {fr : Fr} {H : Hp}
/-- Less is known, the families stay. -/
theorem At.toM {T : Act → World → Prop} (l : List (Nat × Value)) (m : List (Nat × Row)) (fs : List Fam) (hf : AllL (fun p => fr p.1 = some p.2) l) (hH : AllL (fun p => H p.1 = some p.2) m) (hF : AllL (FamOk H) fs) (h : At E (frOf l) (famsOf (hOf m) fs) T) : At E fr H T :=
 h.weak (frOf_le hf.mem) fun k r hk => by
  rcases famsOf_some hk with ⟨f, hf, i, hi, rfl, rfl⟩ | ⟨_, h2⟩
  · exact hF.mem f hf i hi
  · exact hOf_le hH.mem k r h2
/-- Other labels. -/
theorem At.ren {T : Act → World → Prop} {H' : Hp} (σ : Nat → Nat) (hs : ∀ k r, H' k = some r → H (σ k) = some r) (hi : ∀ k k' r r', H' k = some r → H' k' = some r' → σ k = σ k' → k = k') (h : At E fr H' T) : At E fr H T :=
 fun a w R => h a w ⟨R.df, R.size, R.fr, R.chg, ⟨fun k r hk => R.heap.row _ r (hs k r hk), fun k k' r r' hk hk' ho ho' hne hz hz' => R.heap.apart _ _ r r' (hs k r hk) (hs k' r' hk') ho ho' (fun e => hne (hi k k' r r' hk hk' e)) hz hz'⟩⟩
/-- A row goes to a family (the first one): under the number j. -/
theorem At.famPut {T : Act → World → Prop} {b k j : Nat} {D D' : Nat → Bool} {F F' : Nat → Row} {r : Row} {m : List (Nat × Row)} {fs : List Fam} (hk : AllL (LowK b k) m) (hkb : Nat.blt k b = true) (hfs : AllL (FarF b k) fs)
  (hF : ∀ i, D' i = true → i ≠ j → D i = true ∧ F' i = F i) (hr : F' j = r) (h : At E fr (famsOf (hOf m) (⟨b, D', F'⟩ :: fs)) T) : At E fr (famsOf (hOf ((k, r) :: m)) (⟨b, D, F⟩ :: fs)) T := by
 have hmem : ∀ k1 r1, hOf m k1 = some r1 → k1 < b ∧ k1 ≠ k := fun k1 r1 h1 => by
  obtain ⟨p, hp, rfl⟩ := hOf_mem h1
  have := hk.mem p hp
  simp [LowK, beq_f] at this
  exact this
 have hkb' : k < b := by simpa using hkb
 have hfs' : ∀ f ∈ fs, (∀ i j, lf f.b i ≠ lf b j) ∧ k < f.b := fun f hf => by
  have := hfs.mem f hf
  simp [FarF, beq_f] at this
  refine ⟨fun i j => ?_, this.2⟩
  unfold lf
  omega
 have hlow : ∀ f ∈ (⟨b, D, F⟩ : Fam) :: fs, f.has k = false := fun f hf => has_low (by
  rcases List.mem_cons.1 hf with rfl | hf
  · exact hkb
  · simpa using (hfs' f hf).2)
 have hatk : famsOf (hOf ((k, r) :: m)) (⟨b, D, F⟩ :: fs) k = some r := by
  rw [famsOf_low hlow]
  unfold hOf
  simp
 -- what the new map tells
 have key : ∀ k1 r1, famsOf (hOf m) (⟨b, D', F'⟩ :: fs) k1 = some r1 → (k1 = lf b j ∧ r1 = r) ∨ (k1 ≠ lf b j ∧ k1 ≠ k ∧ famsOf (hOf ((k, r) :: m)) (⟨b, D, F⟩ :: fs) k1 = some r1) := fun k1 r1 h1 => by
  rcases famsOf_some h1 with ⟨f, hf, i, hi, rfl, rfl⟩ | ⟨h2, h3⟩
  ·
   rcases List.mem_cons.1 hf with rfl | hf
   ·
    by_cases e : i = j
    ·
     subst e
     exact Or.inl ⟨rfl, hr⟩
    ·
     obtain ⟨g1, g2⟩ := hF i hi e
     refine Or.inr ⟨fun hh => e (lf_inj hh), fun hh => ?_, ?_⟩
     ·
      have : lf b i = k := hh
      unfold lf at this
      omega
     ·
      have := FamOk.hd (H := hOf ((k, r) :: m)) (f := ⟨b, D, F⟩) (l := fs) i g1
      show famsOf _ _ (lf b i) = some (F' i)
      rw [g2]
      exact this
   ·
    refine Or.inr ⟨(hfs' f hf).1 i j, fun hh => ?_, ?_⟩
    ·
     have := (hfs' f hf).2
     unfold lf at hh
     omega
    ·
     have hn : ∀ D0 F0, (⟨b, D0, F0⟩ : Fam).has (lf f.b i) = false := fun D0 F0 => by
      cases hh : (⟨b, D0, F0⟩ : Fam).has (lf f.b i) with
      | false => rfl
      | true =>
       obtain ⟨j2, hj, _⟩ := has_some hh
       exact absurd hj ((hfs' f hf).1 i j2)
     have hcut : ∀ (D0 : Nat → Bool) (F0 : Nat → Row) (H0 : Hp), famsOf H0 (⟨b, D0, F0⟩ :: fs) (lf f.b i) = famsOf H0 fs (lf f.b i) := fun D0 F0 H0 => by
      show (match (⟨b, D0, F0⟩ : Fam).has (lf f.b i) with | true => _ | false => _) = _
      rw [hn D0 F0]
     rw [hcut] at h1 ⊢
     have hne : lf f.b i ≠ k := by
      have := (hfs' f hf).2
      unfold lf
      omega
     rcases famsOf_some h1 with ⟨f2, hf2, i2, hi2, he2, hr2⟩ | ⟨h4, h5⟩
     · -- the same place in both
      have go : ∀ (l : List Fam), famsOf (hOf m) l (lf f.b i) = some (f.F i) → famsOf (hOf ((k, r) :: m)) l (lf f.b i) = some (f.F i) := fun l => by
       induction l with
       | nil =>
        intro h6
        show hOf ((k, r) :: m) (lf f.b i) = _
        unfold hOf
        rw [bnf hne]
        exact h6
       | cons g l ih =>
        intro h6
        cases hh : g.has (lf f.b i) with
        | true =>
         have e1 : ∀ H0 : Hp, famsOf H0 (g :: l) (lf f.b i) = some (g.F ((lf f.b i - g.b) / 16)) := fun H0 => by
          show (match g.has (lf f.b i) with | true => _ | false => _) = _
          rw [hh]
         rw [e1] at h6 ⊢
         exact h6
        | false =>
         have e1 : ∀ H0 : Hp, famsOf H0 (g :: l) (lf f.b i) = famsOf H0 l (lf f.b i) := fun H0 => by
          show (match g.has (lf f.b i) with | true => _ | false => _) = _
          rw [hh]
         rw [e1] at h6 ⊢
         exact ih h6
      exact go fs h1
     ·
      have := hmem _ _ h5
      have h7 : f.has (lf f.b i) = true := by rw [has_lf]; exact hi
      rw [h4 f hf] at h7
      cases h7
  ·
   obtain ⟨g1, g2⟩ := hmem k1 r1 h3
   refine Or.inr ⟨fun hh => ?_, g2, ?_⟩
   ·
    unfold lf at hh
    omega
   ·
    rw [famsOf_low]
    ·
     unfold hOf
     rw [bnf g2]
     exact h3
    ·
     intro f hf
     rcases List.mem_cons.1 hf with rfl | hf
     · exact has_low (by simpa using g1)
     · exact h2 f (List.mem_cons_of_mem _ hf)
 refine At.ren (fun k1 => if k1 = lf b j then k else k1) (fun k1 r1 h1 => ?_) (fun k1 k2 r1 r2 h1 h2 he => ?_) h
 ·
  rcases key k1 r1 h1 with ⟨e1, e2⟩ | ⟨e1, _, e3⟩
  ·
   show famsOf _ _ (if k1 = lf b j then k else k1) = _
   rw [if_pos e1, e2]
   exact hatk
  ·
   show famsOf _ _ (if k1 = lf b j then k else k1) = _
   rw [if_neg e1]
   exact e3
 ·
  rcases key k1 r1 h1 with ⟨e1, _⟩ | ⟨e1, e2, _⟩ <;> rcases key k2 r2 h2 with ⟨e3, _⟩ | ⟨e3, e4, _⟩
  · rw [e1, e3]
  ·
   rw [if_pos e1, if_neg e3] at he
   exact absurd he.symm e4
  ·
   rw [if_neg e1, if_pos e3] at he
   exact absurd he e2
  ·
   rw [if_neg e1, if_neg e3] at he
   exact he
/-- One family more. -/
theorem At.famNew {T : Act → World → Prop} {m : List (Nat × Row)} {fs : List Fam} (b : Nat) (F : Nat → Row) (h : At E fr (famsOf (hOf m) (⟨b, dlt 0, F⟩ :: fs)) T) : At E fr (famsOf (hOf m) fs) T :=
 h.weak (fun i v hv => hv) fun k r hk => by
  have hn : (⟨b, dlt 0, F⟩ : Fam).has k = false := by
   cases hh : (⟨b, dlt 0, F⟩ : Fam).has k with
   | false => rfl
   | true =>
    obtain ⟨i, _, hi⟩ := has_some hh
    have := dlt_iff.1 hi
    omega
  have h1 : (match (⟨b, dlt 0, F⟩ : Fam).has k with | true => some (F ((k - b) / 16)) | false => famsOf (hOf m) fs k) = some r := hk
  rw [hn] at h1
  exact h1
end
/-! ### Slices of bytes, in a slice -/
structure BE where
 A : Option Addr
 b : Nat
 c : Nat
 l : List (BitVec 8)
instance : Inhabited BE := ⟨⟨none, 0, 0, []⟩⟩
def BE.ok (e : BE) : Prop := (0 < e.c → e.A = some ⟨e.b, 0, none⟩) ∧ e.l.length ≤ e.c
theorem BE.adr {e : BE} (h : e.ok) (h0 : 0 < e.l.length) : e.A = some ⟨e.b, 0, none⟩ := h.1 (Nat.lt_of_lt_of_le h0 h.2)
theorem BE.le {e : BE} (h : e.ok) : e.l.length ≤ e.c := h.2
theorem BE.okP {es : List BE} {x : BE} (h : ∀ e ∈ es, e.ok) (hx : x.ok) : ∀ e ∈ es ++ [x], e.ok := fun e he => by
 rcases List.mem_append.1 he with he | he
 · exact h e he
 · rw [List.mem_singleton.1 he]; exact hx
abbrev BE.v (e : BE) : Value := .slice e.A e.l.length e.c
abbrev BE.row (ty : TypeId) (e : BE) : Row := ⟨true, e.b, 0, ty, e.l.map u8V, e.c - e.l.length⟩
abbrev famB (b : Nat) (ty : TypeId) (es : List BE) : Fam := ⟨b, dlt es.length, fun i => (es.getD i default).row ty⟩
abbrev famBut (b : Nat) (ty : TypeId) (es : List BE) (j : Nat) : Fam := ⟨b, dbut es.length j, fun i => (es.getD i default).row ty⟩
theorem getD_mem {es : List BE} {i : Nat} (h : i < es.length) : es.getD i default ∈ es := by
 rw [List.getD_eq_getElem?_getD, List.getElem?_eq_getElem h]
 exact List.getElem_mem h
section
variable {E : Env} {fr : Fr} {T : Act → World → Prop} {b k : Nat} {ty : TypeId} {es : List BE} {m : List (Nat × Row)} {fs : List Fam}
theorem FamOk.but {H : Hp} {j : Nat} (h : FamOk H (famB b ty es)) : FamOk H (famBut b ty es j) := h.congr fun i hi => ⟨dlt_iff.2 (dbut_iff.1 hi).1, rfl⟩
end
/-! ### Families handed over -/
def famK (b n : Nat) : List Nat := (List.range n).map (lf b)
theorem famK_mem {b n k : Nat} (h : k ∈ famK b n) : ∃ i, i < n ∧ k = lf b i := by
 obtain ⟨i, h1, rfl⟩ := List.mem_map.1 h
 exact ⟨i, List.mem_range.1 h1, rfl⟩
theorem famK_nodup (b n : Nat) : (famK b n).Nodup := by
 unfold famK
 rw [List.nodup_iff_pairwise_ne, List.pairwise_map]
 exact List.Pairwise.imp (fun h e => h (lf_inj e)) (List.nodup_iff_pairwise_ne.1 List.nodup_range)
theorem famK_app {ks : List Nat} {b n : Nat} (hk : ks.Nodup) (hl : AllL (fun k => Nat.blt k b = true) ks) : (ks ++ famK b n).Nodup := by
 rw [List.nodup_append]
 refine ⟨hk, famK_nodup b n, fun x hx y hy e => ?_⟩
 obtain ⟨i, _, rfl⟩ := famK_mem hy
 have := hl.mem x hx
 simp at this
 unfold lf at e
 omega
theorem Hp.sets_app : ∀ {ks ls : List Nat} {rs ss : List Row} {H : Hp}, ks.length = rs.length → H.sets (ks ++ ls) (rs ++ ss) = (H.sets ks rs).sets ls ss
 | [], _, [], _, _, _ => rfl
 | k :: ks, ls, r :: rs, ss, H, h => Hp.sets_app (ks := ks) (rs := rs) (H := H.set k r) (by simpa using h)
 | [], _, _ :: _, _, _, h => by simp at h
 | _ :: _, _, [], _, _, h => by simp at h
theorem sets_fam {b : Nat} {F : Nat → Row} : ∀ (n : Nat) (H : Hp), H.sets ((List.range n).map (lf b)) ((List.range n).map F) = famsOf H [⟨b, dlt n, F⟩]
 | 0, H => by
  funext k
  have hn : (⟨b, dlt 0, F⟩ : Fam).has k = false := by
   cases hh : (⟨b, dlt 0, F⟩ : Fam).has k with
   | false => rfl
   | true =>
    obtain ⟨i, _, hi⟩ := has_some hh
    have := dlt_iff.1 hi
    omega
  show H k = (match (⟨b, dlt 0, F⟩ : Fam).has k with | true => some (F ((k - b) / 16)) | false => H k)
  rw [hn]
 | n + 1, H => by
  rw [List.range_succ, List.map_append, List.map_append, Hp.sets_app (by simp), sets_fam n H]
  funext k
  show (famsOf H [⟨b, dlt n, F⟩]).set (lf b n) (F n) k = (match (⟨b, dlt (n + 1), F⟩ : Fam).has k with | true => some (F ((k - b) / 16)) | false => H k)
  by_cases e : k = lf b n
  ·
   subst e
   rw [Hp.set_same, show (⟨b, dlt (n + 1), F⟩ : Fam).has (lf b n) = true from (has_lf ⟨b, dlt (n + 1), F⟩ n).trans (dlt_iff.2 (Nat.lt_succ_self n)), lf_idx]
  ·
   rw [Hp.set_ne _ _ e]
   show (match (⟨b, dlt n, F⟩ : Fam).has k with | true => some (F ((k - b) / 16)) | false => H k) = _
   have : (⟨b, dlt n, F⟩ : Fam).has k = (⟨b, dlt (n + 1), F⟩ : Fam).has k := by
    cases h1 : (⟨b, dlt n, F⟩ : Fam).has k with
    | true =>
     obtain ⟨i, rfl, hi⟩ := has_some h1
     exact ((has_lf ⟨b, dlt (n + 1), F⟩ i).trans (dlt_iff.2 (Nat.lt_succ_of_lt (dlt_iff.1 hi)))).symm
    | false =>
     cases h2 : (⟨b, dlt (n + 1), F⟩ : Fam).has k with
     | false => rfl
     | true =>
      obtain ⟨i, rfl, hi⟩ := has_some h2
      have h3 : i < n + 1 := dlt_iff.1 hi
      have h4 : i ≠ n := fun h => e (by rw [h])
      have h5 := (has_lf ⟨b, dlt n, F⟩ i).trans (dlt_iff.2 (by omega))
      exact h5.symm.trans h1 |>.symm
   rw [this]
section
variable {P : Program} {E : Env} {fr : Fr} {H : Hp} {o : Oper}
/-- A call whose answer holds a family. -/
theorem S_callRF (d : Option Tmp) (owns views : List (Nat × Row)) (ks : List Nat) (b : Nat) {f : FuncId} {xs : List Operand} {tys : Array TypeId} {vs : List Value} {K : Fr → Hp → Prop} {post : Value → List Row → Prop} (ho : o.op = .call ⟨.value (.func f), xs.toArray, tys⟩) (he : entersB P f = true) (ha : ArgsOk fr xs vs)
  (hO : OwnsOk H owns) (hd : (owns.map (·.1)).Nodup) (hV : ViewsOk H owns views) (hk : ks.Nodup) (hlow : AllL (fun k => Nat.blt k b = true) ks)
  (hcon : Con P f vs (owns.map (·.2) ++ views.map (·.2)) post) (hl : ∀ v rows', post v rows' → ks.length ≤ rows'.length)
  (h : ∀ v rows', post v rows' → K (fr.put E.n d v) ((H.dels (owns.map (·.1))).sets (ks ++ famK b (rows'.length - ks.length)) rows')) (hd : o.dst = d := by rfl) : SStep P E true fr H o K := by
 subst hd
 refine S_call _ ho he ha fun w hw hH => ?_
 refine (hcon w (hH.lift hw owns views hO.mem hd hV.mem)).mono fun e w' ⟨v, rows', h1, h2, h3, h4, h5⟩ => ?_
 have hvo : ∀ p ∈ views, p.2.own = false := fun p hp => by
  rcases hV.mem p hp with h1 | ⟨_, r, _, h3, _⟩
  · exact h1.2
  · exact h3
 obtain ⟨h6, h7⟩ := hH.back hw owns views hO.mem hvo h3 h4 h5 (ks ++ famK b (rows'.length - ks.length)) (by
  have := hl v rows' h2
  simp [famK]
  omega) (famK_app hk hlow)
 exact ⟨v, _, h1, fun h => (by cases h), h7, h6, h v rows' h2⟩
end
end SE
end Go


/- Slices of structs: a row's cells are those of its elements, one behind the other. -/
namespace Go
namespace SE
open Go.RowKit
set_option linter.unusedVariables false
set_option linter.unusedSimpArgs false
/-- How an element lies in cells. -/
structure Enc (α : Type) where
 f : α → List Value
 sz : Nat
 pos : 0 < sz
 len : ∀ a, (f a).length = sz
 one : ∀ a, ∀ u ∈ f a, u.oneCell' = true
def encs {α : Type} (e : Enc α) (L : List α) : List Value := L.flatMap e.f
section
variable {α : Type} {e : Enc α}
theorem encs_len (L : List α) : (encs e L).length = L.length * e.sz := by
 induction L with
 | nil => simp [encs]
 | cons a L ih =>
  unfold encs at ih ⊢
  rw [List.flatMap_cons, List.length_append, ih, e.len, List.length_cons, Nat.add_mul, Nat.one_mul, Nat.add_comm]
theorem encs_app (L M : List α) : encs e (L ++ M) = encs e L ++ encs e M := by simp [encs]
theorem encs_take (L : List α) (n : Nat) : (encs e L).take (n * e.sz) = encs e (L.take n) := by
 by_cases h : n ≤ L.length
 ·
  have h1 : L = L.take n ++ L.drop n := (List.take_append_drop n L).symm
  have h2 : (encs e (L.take n)).length = n * e.sz := by rw [encs_len, List.length_take, Nat.min_eq_left h]
  conv => lhs; rw [h1, encs_app]
  rw [← h2, List.take_left]
 · rw [List.take_of_length_le (by rw [encs_len]; exact Nat.mul_le_mul_right _ (by omega)), List.take_of_length_le (by omega)]
theorem encs_drop (L : List α) (n : Nat) : (encs e L).drop (n * e.sz) = encs e (L.drop n) := by
 by_cases h : n ≤ L.length
 ·
  have h1 : L = L.take n ++ L.drop n := (List.take_append_drop n L).symm
  have h2 : (encs e (L.take n)).length = n * e.sz := by rw [encs_len, List.length_take, Nat.min_eq_left h]
  conv => lhs; rw [h1, encs_app]
  rw [← h2, List.drop_left]
 ·
  rw [List.drop_eq_nil_of_le (by rw [encs_len]; exact Nat.mul_le_mul_right _ (by omega)), List.drop_eq_nil_of_le (by omega)]
  rfl
end

section
variable {P : Program} {E : Env} {fr : Fr} {H : Hp} {o : Oper} {t ty : TypeId} {x y : Operand} {v : Value} {α : Type} {en : Enc α}
theorem SrcE.all {L : List α} {m c b q k sz : Nat} {A : Option Addr} {r : Row} (hs : en.sz = sz) (hy : fr.ev y = some (.slice A m c)) (hA : 0 < m → A = some ⟨b, q, none⟩) (hk : 0 < m → H k = some r ∧ r.b = b ∧ r.s + 0 = q) (hl : L.length = m) (hc : r.cells = encs en L := by rfl) : Src P E fr H sz y m (encs en L) := by
 subst hs
 exact Src.row (j := 0) hy hA hk (by rw [hc, List.drop_zero, List.take_of_length_le (by rw [encs_len, hl]; exact Nat.le_refl _)]) (by rw [encs_len, hl])
theorem SrcE.part {L : List α} {m c b q k j sz : Nat} {A : Option Addr} {r : Row} (hs : en.sz = sz) (hy : fr.ev y = some (.slice A m c)) (hA : 0 < m → A = some ⟨b, q, none⟩) (hk : 0 < m → H k = some r ∧ r.b = b ∧ r.s + j * sz = q) (hl : j + m ≤ L.length) (hc : r.cells = encs en L := by rfl) : Src P E fr H sz y m (encs en ((L.drop j).take m)) := by
 subst hs
 exact Src.row (j := j * en.sz) hy hA hk (by rw [hc, encs_drop, encs_take]) (by rw [encs_len, List.length_take, List.length_drop, Nat.min_eq_left (by omega)])
theorem SrcE.tail {L : List α} {m c b q k j sz : Nat} {A : Option Addr} {r : Row} (hs : en.sz = sz) (hy : fr.ev y = some (.slice A m c)) (hA : 0 < m → A = some ⟨b, q, none⟩) (hk : 0 < m → H k = some r ∧ r.b = b ∧ r.s + j * sz = q) (hl : j + m = L.length) (hc : r.cells = encs en L := by rfl) : Src P E fr H sz y m (encs en (L.drop j)) := by
 have h := SrcE.part (P := P) (E := E) (en := en) (L := L) hs hy hA hk (Nat.le_of_eq hl) hc
 rwa [List.take_of_length_le (l := L.drop j) (by rw [List.length_drop]; omega)] at h
/-- append, in place: among the cells that are known. -/
theorem S_appendIn (d : Option Tmp) (k : Nat) {t tx e ty' : TypeId} {D : TypeDesc} {sz b n c m rest : Nat} {A : Option Addr} {cells news : List Value} {K : Fr → Hp → Prop}
  (ho : o.op = .call ⟨.builtin .append, #[x, y], #[t, tx]⟩) (ht : P.underlying t = some (.slice e)) (htx : P.underlying tx = some D) (hD : D = .string ∨ ∃ e', D = .slice e') (hz : tsz P e = some sz)
  (hx : fr.ev x = some (.slice A n c)) (hA : A = some ⟨b, 0, none⟩) (hk : H k = some ⟨true, b, 0, ty', cells, rest⟩) (hroom : n + m ≤ c) (hlen : n * sz + news.length ≤ cells.length) (hpos : cells.length + rest ≠ 0)
  (hs : Src P E fr H sz y m news) (h1 : ∀ u ∈ news, u.oneCell' = true)
  (h : K (fr.put E.n d (.slice A (n + m) c)) (H.set k ⟨true, b, 0, ty', splice cells (n * sz) news, rest⟩)) (hd : o.dst = d := by rfl) : SStep P E true fr H o K := by
 subst hd hA
 intro a w R
 obtain ⟨s1, s2, s3⟩ := hs a w R
 obtain ⟨_, e2, e3, tl, fz, e4, e5, e6⟩ := R.heap.own_ hk rfl hpos
 dsimp only at e2 e3 e4 e5 e6
 obtain ⟨w', r1, r2, r3⟩ := run_stores (P := P) b (n * sz) ty' fz news 0 (cells ++ tl) w e6 (by simp; omega) (by rcases e5 with e5 | e5; exact Or.inl e5; right; simp; omega) h1
 have hrun := exec_append ho (a := a) (P := P) (w := w) (by
  rw [R.ev hx]
  exact run_append_room (D := D) (A := some ⟨b, 0, none⟩) ht htx hD hz s1 s2 hroom (w' := w') (by
   dsimp only
   rw [add_addr, Nat.zero_add]
   exact r1))
 unfold Oper.wp
 rw [hrun]
 refine ⟨fun hh => (by cases hh), _, _, h, ?_⟩
 have R' := R.put o.dst (.slice (some ⟨b, 0, none⟩) (n + m) c)
 refine ⟨R'.df, R'.size, R'.fr, R.chg.trans_new r2 ?_, ?_⟩
 ·
  intro q hq
  obtain rfl : q = b := by simpa using hq
  exact e3
 ·
  refine R.heap.write (r := ⟨true, b, 0, ty', cells, rest⟩) hk rfl hpos (by dsimp only; rw [splice_length _ _ _ hlen]) r2 fun tl' fz' ht' hh' => ?_
  dsimp only at hh' ht' ⊢
  rw [e6] at hh'
  simp only [Option.some.injEq, Obj.cells.injEq] at hh'
  obtain ⟨g1, _, g3⟩ := hh'
  have g1 : cells ++ tl = cells ++ tl' := by simpa using g1
  have g1 := List.append_cancel_left g1
  subst g1 g3
  exact ⟨tl, e4, by rw [r3, Nat.add_zero, splice_append _ _ _ _ hlen]⟩
end
end SE
end Go


/- append in place, into a block of whatever type: cells of one kind. -/
namespace Go
namespace SE
open Go.RowKit
set_option linter.unusedVariables false
set_option linter.unusedSimpArgs false
section
variable {P : Program} {E : Env} {fr : Fr} {H : Hp} {o : Oper} {x y : Operand}
theorem S_appendInM {α : Type} {f : α → Value} {l L : List α} (d : Option Tmp) (k : Nat) (M : List α) {t tx e ty' : TypeId} {D : TypeDesc} {b n c m rest : Nat} {A : Option Addr} {K : Fr → Hp → Prop}
  (ho : o.op = .call ⟨.builtin .append, #[x, y], #[t, tx]⟩) (ht : P.underlying t = some (.slice e)) (htx : P.underlying tx = some D) (hD : D = .string ∨ ∃ e', D = .slice e') (hz : tsz P e = some 1)
  (hx : fr.ev x = some (.slice A n c)) (hA : A = some ⟨b, 0, none⟩) (hk : H k = some ⟨true, b, 0, ty', l.map f, rest⟩) (hroom : n + m ≤ c) (hlen : n + m ≤ l.length) (hpos : 0 < l.length)
  (hs : Src P E fr H 1 y m (L.map f)) (h1 : ∀ u, (f u).oneCell' = true) (hM : splice l n L = M) (hm : L.length = m)
  (h : K (fr.put E.n d (.slice A (n + m) c)) (H.set k ⟨true, b, 0, ty', M.map f, rest⟩)) (hd : o.dst = d := by rfl) : SStep P E true fr H o K := by
 subst hM hm
 refine S_appendIn d k (sz := 1) (cells := l.map f) (news := L.map f) (rest := rest) ho ht htx hD hz hx hA hk hroom (by simp only [List.length_map]; omega) (by simp only [List.length_map]; omega) hs (by intro u hu; obtain ⟨z, _, rfl⟩ := List.mem_map.1 hu; exact h1 z) ?_ hd
 rw [Nat.mul_one, splice_map]
 exact h
/-- .. of noughts, to a slice that is too short for them: always in a new block. -/
theorem S_appendVZ {α : Type} {f : α → Value} {l : List α} (d : Option Tmp) (k : Nat) (M : List α) (z0 : α) {t tx e : TypeId} {by_ n c m : Nat} {A : Option Addr} {z : Value} {j : Int} {K : Fr → Hp → Prop}
  (ho : o.op = .call ⟨.builtin .append, #[x, y], #[t, tx]⟩) (ht : P.underlying t = some (.slice e)) (htx : P.underlying tx = some (.int .i64)) (hz : tsz P e = some 1) (hby : tby P e = some by_) (hzz : tze P e = some z) (hzc : z.cells = #[f z0])
  (hx : fr.ev x = some (.slice A n c)) (hsx : Src P E fr H 1 x n (l.map f)) (hroom : c < n + m)
  (hy : fr.ev y = some (.int .i64 j)) (hj : j = (m : Int)) (hmax : n + m ≤ 140737488355328) (hbytes : (n + m) * by_ ≤ 140737488355328) (hM : l ++ List.replicate m z0 = M)
  (h : ∀ (b' c' : Nat), M.length ≤ c' → K (fr.put E.n d (.slice (some ⟨b', 0, none⟩) M.length c')) (H.set k ⟨true, b', 0, e, M.map f, c' - M.length⟩)) (hd : o.dst = d := by rfl) : SStep P E true fr H o K := by
 subst hd hM hj
 intro a w R
 have hold := (hsx a w.drew R.drew).2.1
 have hl := (hsx a w.drew R.drew).2.2
 rw [List.length_map, Nat.mul_one] at hl
 rw [R.drew.ev hx] at hold
 have hm : m ≤ 140737488355328 := by omega
 have s3 : (List.replicate m (f z0)).length = m * 1 := by simp
 have s2 : m * 1 ≠ 0 → Builtin.zeroCells z.cells m = (List.replicate m (f z0)).toArray := fun _ => by rw [hzc, zeroCells_one]
 obtain ⟨c', hc', hr⟩ := run_appendZ_grow (ty := o.type) ht htx hz hby hzz hm s3 s2 hold hroom hmax hbytes
 have hrun := exec_append ho (a := a) (P := P) (w := w) (by rw [R.ev hx, R.ev hy]; exact hr)
 unfold Oper.wp
 rw [hrun]
 have hle : (l ++ List.replicate m z0).length = n + m := by rw [List.length_append, List.length_replicate]; omega
 refine ⟨fun hh => (by cases hh), _, _, h w.heap.size c' (by omega), ?_⟩
 have R' := R.put o.dst (.slice (some ⟨w.heap.size, 0, none⟩) (l ++ List.replicate m z0).length c')
 have hb : Below w.heap.size w (w.drew.alloc (.cells ((l.map f).toArray ++ (List.replicate m (f z0)).toArray ++ Builtin.zeroCells z.cells (c' - (n + m))) e)) := (Below.refl _ _).drew.alloc (Nat.le_refl _) _
 rw [hle] at R' ⊢
 refine ⟨R'.df, R'.size, R'.fr, R.chg.trans (Chg.of_below hb), ?_⟩
 have := R.heap.new R.chg hb k ((l ++ List.replicate m z0).map f) (Builtin.zeroCells z.cells (c' - (n + m))).toList e (0, 0) (Or.inl rfl) w.heap.size (Nat.le_refl _) (by simp) (by
  have := heap_alloc_new w.drew (.cells ((l.map f).toArray ++ (List.replicate m (f z0)).toArray ++ Builtin.zeroCells z.cells (c' - (n + m))) e)
  rw [World.size_drew] at this
  rw [this]
  simp)
 rw [Array.length_toList, size_zeroCells', show z.cells.size = 1 by rw [hzc]; rfl, Nat.mul_one] at this
 exact this
end
end SE
end Go


/- Families of slices of bytes that begin behind so many of their block's. -/
namespace Go
namespace SE
open Go.RowKit
set_option linter.unusedVariables false
set_option linter.unusedSimpArgs false
/-- A slice l at q of a block's bytes w. -/
structure BG where
 A : Option Addr
 b : Nat
 c : Nat
 l : List (BitVec 8)
 q : Nat
 w : List (BitVec 8)
instance : Inhabited BG := ⟨⟨none, 0, 0, [], 0, []⟩⟩
def BG.ok (e : BG) : Prop := (0 < e.c → e.A = some ⟨e.b, e.q, none⟩) ∧ e.l.length ≤ e.c ∧ (e.w.drop e.q).take e.l.length = e.l ∧ e.q + e.l.length ≤ e.w.length
theorem BG.adr {e : BG} (h : e.ok) (h0 : 0 < e.l.length) : e.A = some ⟨e.b, e.q, none⟩ := h.1 (Nat.lt_of_lt_of_le h0 h.2.1)
theorem BG.le {e : BG} (h : e.ok) : e.l.length ≤ e.c := h.2.1
theorem BG.okP {es : List BG} {x : BG} (h : ∀ e ∈ es, e.ok) (hx : x.ok) : ∀ e ∈ es ++ [x], e.ok := fun e he => by
 rcases List.mem_append.1 he with he | he
 · exact h e he
 · rw [List.mem_singleton.1 he]; exact hx
abbrev BG.v (e : BG) : Value := .slice e.A e.l.length e.c
abbrev BG.row (ty : TypeId) (e : BG) : Row := ⟨true, e.b, 0, ty, e.w.map u8V, e.c + e.q - e.w.length⟩
/-- A block's all. -/
abbrev bG (A : Option Addr) (b c : Nat) (l : List (BitVec 8)) : BG := ⟨A, b, c, l, 0, l⟩
theorem bG_ok {A : Option Addr} {b c : Nat} {l : List (BitVec 8)} (h1 : 0 < c → A = some ⟨b, 0, none⟩) (h2 : l.length ≤ c) : (bG A b c l).ok :=
 ⟨h1, h2, by rw [List.drop_zero, List.take_length], by show 0 + l.length ≤ l.length; omega⟩
/-- What is seen of a slice's block through it. -/
theorem BG.see {e : BG} (h : e.ok) {ty ty' : TypeId} {rest : Nat} : View (e.row ty) ⟨false, e.b, e.q, ty', e.l.map u8V, rest⟩ := by
 refine ⟨rfl, rfl, e.q, (Nat.zero_add _).symm, fun p v hv => ?_⟩
 have h3 := h.2.2.1
 rw [← h3, List.map_take, List.map_drop] at hv
 rw [List.getElem?_take] at hv
 split at hv
 · rwa [List.getElem?_drop] at hv
 · cases hv
abbrev famG (b : Nat) (ty : TypeId) (es : List BG) : Fam := ⟨b, dlt es.length, fun i => (es.getD i default).row ty⟩
theorem getDG_left {es : List BG} {x : BG} {i : Nat} (h : i < es.length) : (es ++ [x]).getD i default = es.getD i default := by
 simp [List.getD_eq_getElem?_getD, List.getElem?_append_left h]
theorem getDG_right {es : List BG} {x : BG} : (es ++ [x]).getD es.length default = x := by
 simp [List.getD_eq_getElem?_getD]
theorem getDG_mem {es : List BG} {i : Nat} (h : i < es.length) : es.getD i default ∈ es := by
 rw [List.getD_eq_getElem?_getD, List.getElem?_eq_getElem h]
 exact List.getElem_mem h
section
variable {E : Env} {fr : Fr} {T : Act → World → Prop} {b k : Nat} {ty : TypeId} {es : List BG} {m : List (Nat × Row)} {fs : List Fam}
theorem At.famPushG (e : BG) (hk : AllL (LowK b k) m) (hkb : Nat.blt k b = true) (hfs : AllL (FarF b k) fs) (h : At E fr (famsOf (hOf m) (famG b ty (es ++ [e]) :: fs)) T) : At E fr (famsOf (hOf ((k, e.row ty) :: m)) (famG b ty es :: fs)) T :=
 At.famPut (j := es.length) hk hkb hfs (fun i hi hne => by
  have h1 := dlt_iff.1 hi
  rw [List.length_append, List.length_singleton] at h1
  have h2 : i < es.length := by omega
  exact ⟨dlt_iff.2 h2, by rw [getDG_left h2]⟩) (by rw [getDG_right]) h
end
theorem rows_rangeG (ty : TypeId) (es : List BG) : es.map (BG.row ty) = (List.range es.length).map fun i => (es.getD i default).row ty := by
 apply List.ext_getElem (by simp)
 intro i h1 h2
 have h3 : i < es.length := by simpa using h1
 simp [List.getD_eq_getElem?_getD, h3]
theorem give_famG {H : Hp} {ks : List Nat} {rs : List Row} {b : Nat} {ty : TypeId} {es : List BG} (h0 : ks.map H = rs.map some) (hF : FamOk H (famG b ty es)) : (ks ++ famK b es.length).map H = (rs ++ es.map (BG.row ty)).map some := by
 rw [List.map_append, List.map_append, h0, rows_rangeG, famK, List.map_map, List.map_map]
 congr 1
 refine List.map_congr_left fun i hi => ?_
 exact hF i (dlt_iff.2 (List.mem_range.1 hi))
theorem own_famG {rs : List Row} {ty : TypeId} {es : List BG} (h : ∀ r ∈ rs, r.own = true) : ∀ r ∈ rs ++ es.map (BG.row ty), r.own = true := fun r hr => by
 rcases List.mem_append.1 hr with hr | hr
 · exact h r hr
 ·
  obtain ⟨e, _, rfl⟩ := List.mem_map.1 hr
  rfl
theorem sets_famG {b : Nat} {ty : TypeId} {es : List BG} {H : Hp} {ks : List Nat} {rs : List Row} (h : ks.length = rs.length) : H.sets (ks ++ famK b ((rs ++ es.map (BG.row ty)).length - ks.length)) (rs ++ es.map (BG.row ty)) = famsOf (H.sets ks rs) [famG b ty es] := by
 have e : (rs ++ es.map (BG.row ty)).length - ks.length = es.length := by simp; omega
 rw [e, Hp.sets_app h, rows_rangeG]
 exact sets_fam _ _
end SE
end Go


/- Functions that take a family's rows, to be read. -/
namespace Go
namespace SE
open Go.RowKit
set_option linter.unusedVariables false
set_option linter.unusedSimpArgs false
/-- What is seen of an element. -/
abbrev BG.vrow (e : BG) : Row := ⟨false, e.b, e.q, 0, e.l.map u8V, 0⟩
abbrev famR (b : Nat) (es : List BG) : Fam := ⟨b, dlt es.length, fun i => (es.getD i default).vrow⟩
theorem HR.famR {E : Env} {w : World} {fixed : List Row} {es : List BG} {b : Nat} (h : HR E (hL (fixed ++ es.map BG.vrow)) w) : HR E (famsOf (hL fixed) [famR b es]) w := by
 have get : ∀ i, i < es.length → (hL (fixed ++ es.map BG.vrow)) (fixed.length + i) = some (es.getD i default).vrow := fun i hi => by
  show (fixed ++ es.map BG.vrow)[fixed.length + i]? = _
  rw [List.getElem?_append_right (Nat.le_add_right _ _), Nat.add_sub_cancel_left, List.getElem?_map, List.getElem?_eq_getElem hi, List.getD_eq_getElem?_getD, List.getElem?_eq_getElem hi]
  rfl
 have low : ∀ k r, hL fixed k = some r → hL (fixed ++ es.map BG.vrow) k = some r := fun k r hk => by
  have hk : fixed[k]? = some r := hk
  show (fixed ++ es.map BG.vrow)[k]? = some r
  rw [List.getElem?_append_left (List.getElem?_eq_some_iff.1 hk).1, hk]
 constructor
 ·
  intro k r hk
  rcases famsOf_some hk with ⟨f, hf, i, hi, _, rfl⟩ | ⟨_, hk⟩
  ·
   rw [List.mem_singleton.1 hf] at hi ⊢
   exact h.row _ _ (get i (dlt_iff.1 hi))
  · exact h.row _ _ (low k r hk)
 ·
  intro k k' r r' hk hk' ho ho' hne h1 h2
  rcases famsOf_some hk with ⟨f, hf, i, hi, _, rfl⟩ | ⟨_, hk⟩
  ·
   rw [List.mem_singleton.1 hf] at ho
   cases ho
  rcases famsOf_some hk' with ⟨f, hf, i, hi, _, rfl⟩ | ⟨_, hk'⟩
  ·
   rw [List.mem_singleton.1 hf] at ho'
   cases ho'
  exact h.apart _ _ _ _ (low k r hk) (low k' r' hk') ho ho' hne h1 h2
section
variable {P : Program}
/-- A function is entered with a family. -/
theorem Con.enterF (b : Nat) {f : FuncId} {fn : Func} {c : Code} {args : List Value} {fixed : List Row} {es : List BG} {post : Value → List Row → Prop} {n : Nat} (hf : P.funcs[f]? = some fn) (hn : fn.ntmps = n) (hle : args.length ≤ n) (hb : fn.body = some c)
  (h : ∀ w, At ⟨w, ownB (fixed ++ es.map BG.vrow), n, []⟩ (frA args) (famsOf (hL fixed) [famR b es])
   (c.wp P (bodyPost P fn fun e w' => ∃ v rows', e = .returned v ∧ post v rows' ∧ Chg (ownB (fixed ++ es.map BG.vrow)) w w' ∧ (∀ r ∈ rows', r.own = true) ∧ HR ⟨w, ownB (fixed ++ es.map BG.vrow), 0, []⟩ (hL rows') w'))) : Con P f args (fixed ++ es.map BG.vrow) post :=
 Con.enter hf hn hle hb fun w a w1 R => h w a w1 ⟨R.df, R.size, R.fr, R.chg, R.heap.famR⟩
/-- The views of a family's elements. -/
def famV (b : Nat) (es : List BG) : List (Nat × Row) := (List.range es.length).map fun i => (lf b i, (es.getD i default).vrow)
theorem famV_rows (b : Nat) (es : List BG) : (famV b es).map (·.2) = es.map BG.vrow := by
 apply List.ext_getElem (by simp [famV])
 intro i h1 h2
 have h3 : i < es.length := by simpa using h2
 simp [famV, List.getD_eq_getElem?_getD, h3]
theorem AllL.of_mem {α : Type} {p : α → Prop} : ∀ {l : List α}, (∀ x ∈ l, p x) → AllL p l
 | [], _ => trivial
 | [x], h => h x (by simp)
 | x :: y :: l, h => ⟨h x (by simp), AllL.of_mem fun z hz => h z (List.mem_cons_of_mem _ hz)⟩
theorem viewsF {H : Hp} {views : List (Nat × Row)} {b : Nat} {ty : TypeId} {es : List BG} (hV : ViewsOk H [] views) (hF : FamOk H (famG b ty es)) (hes : ∀ e ∈ es, e.ok) : ViewsOk H [] (views ++ famV b es) := by
 refine AllL.of_mem fun p hp => ?_
 rcases List.mem_append.1 hp with hp | hp
 · exact hV.mem p hp
 ·
  obtain ⟨i, hi, rfl⟩ := List.mem_map.1 hp
  have hi : i < es.length := List.mem_range.1 hi
  exact Or.inr ⟨by simp, _, hF i (dlt_iff.2 hi), BG.see (hes _ (getDG_mem hi))⟩
theorem Con.famV {f : FuncId} {args : List Value} {views : List (Nat × Row)} {b : Nat} {es : List BG} {post : Value → List Row → Prop} (h : Con P f args (views.map (·.2) ++ es.map BG.vrow) post) : Con P f args ((views ++ SE.famV b es).map (·.2)) post := by
 rw [List.map_append, famV_rows]
 exact h
end
end SE
end Go


/- Families beside rows of one's own; elements read where they lie. -/
namespace Go
namespace SE
open Go.RowKit
set_option linter.unusedVariables false
set_option linter.unusedSimpArgs false
/-- Other labels, and rows that are only read under as many as one likes. -/
theorem HR.pull {E : Env} {H H' : Hp} {w : World} (h : HR E H w) (hs : ∀ k r, H' k = some r → ∃ j, H j = some r ∧ (r.own = true → j = k)) : HR E H' w := by
 constructor
 ·
  intro k r hk
  obtain ⟨j, hj, _⟩ := hs k r hk
  exact h.row j r hj
 ·
  intro k k' r r' hk hk' ho ho' hne h1 h2
  obtain ⟨j, hj, e⟩ := hs k r hk
  obtain ⟨j', hj', e'⟩ := hs k' r' hk'
  obtain rfl := e ho
  obtain rfl := e' ho'
  exact h.apart _ _ _ _ hj hj' ho ho' hne h1 h2
theorem At.pull {E : Env} {fr : Fr} {H H' : Hp} {T : Act → World → Prop} (hs : ∀ k r, H' k = some r → ∃ j, H j = some r ∧ (r.own = true → j = k)) (h : At E fr H' T) : At E fr H T :=
 fun a w R => h a w ⟨R.df, R.size, R.fr, R.chg, R.heap.pull hs⟩
/-- A row that is only read, under one label more. -/
theorem At.see {E : Env} {fr : Fr} {H : Hp} {T : Act → World → Prop} (k j : Nat) {r : Row} (hk : H j = some r) (ho : r.own = false) (h : At E fr (H.set k r) T) : At E fr H T :=
 At.pull (fun i x hx => by
  rcases Hp.set_some hx with ⟨rfl, rfl⟩ | ⟨_, hx⟩
  · exact ⟨j, hk, fun h => by rw [ho] at h; cases h⟩
  · exact ⟨i, hx, fun _ => rfl⟩) h
/-- A row of no cells. -/
theorem At.row0 {E : Env} {fr : Fr} {H : Hp} {T : Act → World → Prop} (k : Nat) {r : Row} (ho : r.own = false) (hc : r.cells = []) (h : At E fr (H.set k r) T) : At E fr H T := fun a w R => by
 refine h a w ⟨R.df, R.size, R.fr, R.chg, ?_, ?_⟩
 ·
  intro i x hx
  rcases Hp.set_some hx with ⟨rfl, rfl⟩ | ⟨_, hx⟩
  ·
   show (match x.own with | true => _ | false => _)
   rw [ho]
   exact fun h => absurd hc h
  · exact R.heap.row i x hx
 ·
  intro i i' x x' hx hx' h1 h2 hne g1 g2
  rcases Hp.set_some hx with ⟨rfl, rfl⟩ | ⟨_, hx⟩
  · rw [ho] at h1; cases h1
  rcases Hp.set_some hx' with ⟨rfl, rfl⟩ | ⟨_, hx'⟩
  · rw [ho] at h2; cases h2
  exact R.heap.apart _ _ _ _ hx hx' h1 h2 hne g1 g2
/-- An element of a family that is only read. -/
theorem At.famSee {E : Env} {fr : Fr} {H : Hp} {T : Act → World → Prop} (k : Nat) (b : Nat) (es : List BG) (i : Nat) {x : BG} (hx : es.getD i default = x) (hF : FamOk H (famR b es)) (h : At E fr (H.set k x.vrow) T) : At E fr H T := by
 subst hx
 rcases Nat.lt_or_ge i es.length with hi | hi
 · exact At.see k (lf b i) (hF i (dlt_iff.2 hi)) rfl h
 ·
  refine At.row0 k rfl ?_ h
  rw [List.getD_eq_getElem?_getD, List.getElem?_eq_none hi]
  rfl
/-- Two families at a function's beginning. -/
theorem HR.famR2 {E : Env} {w : World} {fixed : List Row} {es es2 : List BG} {b b2 : Nat} (h : HR E (hL (fixed ++ es.map BG.vrow ++ es2.map BG.vrow)) w) : HR E (famsOf (hL fixed) [SE.famR b es, SE.famR b2 es2]) w := by
 refine h.pull fun k r hk => ?_
 rcases famsOf_some hk with ⟨f, hf, i, hi, _, rfl⟩ | ⟨_, hk⟩
 ·
  rcases List.mem_cons.1 hf with rfl | hf
  ·
   have hi : i < es.length := dlt_iff.1 hi
   refine ⟨fixed.length + i, ?_, fun h => by cases h⟩
   show (fixed ++ es.map BG.vrow ++ es2.map BG.vrow)[fixed.length + i]? = _
   rw [List.append_assoc, List.getElem?_append_right (Nat.le_add_right _ _), Nat.add_sub_cancel_left, List.getElem?_append_left (by simpa using hi), List.getElem?_map, List.getElem?_eq_getElem hi]
   refine congrArg some ?_
   show _ = BG.vrow (List.getD _ i default)
   rw [List.getD_eq_getElem?_getD, List.getElem?_eq_getElem hi]
   rfl
  ·
   rw [List.mem_singleton.1 hf] at hi ⊢
   have hi : i < es2.length := dlt_iff.1 hi
   refine ⟨(fixed ++ es.map BG.vrow).length + i, ?_, fun h => by cases h⟩
   show (fixed ++ es.map BG.vrow ++ es2.map BG.vrow)[(fixed ++ es.map BG.vrow).length + i]? = _
   rw [List.getElem?_append_right (Nat.le_add_right _ _), Nat.add_sub_cancel_left, List.getElem?_map, List.getElem?_eq_getElem hi]
   refine congrArg some ?_
   show _ = BG.vrow (List.getD _ i default)
   rw [List.getD_eq_getElem?_getD, List.getElem?_eq_getElem hi]
   rfl
 ·
  refine ⟨k, ?_, fun _ => rfl⟩
  have hk : fixed[k]? = some r := hk
  show (fixed ++ es.map BG.vrow ++ es2.map BG.vrow)[k]? = some r
  rw [List.append_assoc, List.getElem?_append_left (List.getElem?_eq_some_iff.1 hk).1, hk]
section
variable {P : Program}
theorem Con.enterF2 (b b2 : Nat) {f : FuncId} {fn : Func} {c : Code} {args : List Value} {fixed : List Row} {es es2 : List BG} {post : Value → List Row → Prop} {n : Nat} (hf : P.funcs[f]? = some fn) (hn : fn.ntmps = n) (hle : args.length ≤ n) (hb : fn.body = some c)
  (h : ∀ w, At ⟨w, ownB (fixed ++ es.map BG.vrow ++ es2.map BG.vrow), n, []⟩ (frA args) (famsOf (hL fixed) [famR b es, famR b2 es2])
   (c.wp P (bodyPost P fn fun e w' => ∃ v rows', e = .returned v ∧ post v rows' ∧ Chg (ownB (fixed ++ es.map BG.vrow ++ es2.map BG.vrow)) w w' ∧ (∀ r ∈ rows', r.own = true) ∧ HR ⟨w, ownB (fixed ++ es.map BG.vrow ++ es2.map BG.vrow), 0, []⟩ (hL rows') w'))) : Con P f args (fixed ++ es.map BG.vrow ++ es2.map BG.vrow) post :=
 Con.enter hf hn hle hb fun w a w1 R => h w a w1 ⟨R.df, R.size, R.fr, R.chg, R.heap.famR2⟩
end
/-- A family's elements among a call's views, beside rows of the callee's own. -/
theorem viewsFO {H : Hp} {owns views : List (Nat × Row)} {b : Nat} {ty : TypeId} {es : List BG} (hV : ViewsOk H owns views) (hF : FamOk H (famG b ty es)) (hes : ∀ e ∈ es, e.ok) (hl : AllL (fun p => Nat.blt p.1 b = true) owns) : ViewsOk H owns (views ++ famV b es) := by
 refine AllL.of_mem fun p hp => ?_
 rcases List.mem_append.1 hp with hp | hp
 · exact hV.mem p hp
 ·
  obtain ⟨i, hi, rfl⟩ := List.mem_map.1 hp
  have hi : i < es.length := List.mem_range.1 hi
  refine Or.inr ⟨fun hm => ?_, _, hF i (dlt_iff.2 hi), BG.see (hes _ (getDG_mem hi))⟩
  obtain ⟨q, hq, hq2⟩ := List.mem_map.1 hm
  have h1 : q.1 < b := Nat.lt_of_lt_of_le (Nat.lt_of_succ_le (Nat.le_of_ble_eq_true (hl.mem q hq))) (Nat.le_refl _)
  have h2 : q.1 = b + 16 * i := hq2
  omega
section
variable {P : Program} {E : Env} {fr : Fr} {H : Hp} {o : Oper} {x : Operand}
end
theorem FamOk.sets {f : Fam} : ∀ {ks : List Nat} {rs : List Row} {H : Hp}, (ks.all fun k => Nat.blt k f.b) = true → FamOk H f → FamOk (H.sets ks rs) f
 | [], _, _, _, h => by
  unfold Hp.sets
  exact h
 | _ :: _, [], _, _, h => by
  unfold Hp.sets
  exact h
 | k :: ks, r :: rs, H, hl, h => by
  rw [List.all_cons, Bool.and_eq_true] at hl
  show FamOk ((H.set k r).sets ks rs) f
  exact FamOk.sets hl.2 (FamOk.set hl.1 h)
theorem FamOk.dels {f : Fam} : ∀ {ks : List Nat} {H : Hp}, (ks.all fun k => Nat.blt k f.b) = true → FamOk H f → FamOk (H.dels ks) f
 | [], _, _, h => h
 | k :: ks, H, hl, h => by
  rw [List.all_cons, Bool.and_eq_true] at hl
  show FamOk ((H.del k).dels ks) f
  exact FamOk.dels hl.2 (FamOk.del hl.1 h)
theorem FK2 {H : Hp} {f : Fam} (h : FamOk H f := by repeat (first | exact rfl | assumption | with_reducible exact FamOk.hd | with_reducible refine FamOk.set ?_ ?_ | with_reducible refine FamOk.del ?_ ?_ | with_reducible refine FamOk.tl ?_ ?_ | with_reducible refine FamOk.sets ?_ ?_ | with_reducible refine FamOk.dels ?_ ?_ | with_reducible refine FamOk.emp ?_ | refine FamOk.hovr (by kernel_rfl) ?_ | refine FamOk.swap rfl rfl ?_)) : FamOk H f := h
example (H : Hp) (r : Row) (es fs : List BG) : FamOk ((((famsOf H [famG 100000 5 es, famR 100001 fs]).set 11 r).dels [12]).sets [13, 14] [r, r]) (famR 100001 fs) := FK2
example (H : Hp) (r : Row) (es fs : List BG) : FamOk (famsOf ((((famsOf H [famG 100000 5 es, famR 100001 fs]).set 11 r).dels [12]).sets [13, 14] [r, r]) [famG 100002 6 es]) (famR 100001 fs) := FK2
end SE
end Go


/- A slice that begins inside a block of one's own: one more element. A family without its first ones. -/
namespace Go
namespace SE
open Go.RowKit
set_option linter.unusedVariables false
set_option linter.unusedSimpArgs false
/-- A family without its first k. -/
theorem At.famDrop {E : Env} {fr : Fr} {T : Act → World → Prop} {b : Nat} {ty : TypeId} {es : List BG} {m : List (Nat × Row)} {fs : List Fam} (k : Nat) (hm : AllL (fun p => Nat.blt p.1 b = true) m) (hfs : AllL (fun f => (Nat.ble f.b (b + 15) && Nat.ble b (f.b + 15) && !Nat.beq f.b b) = true) fs)
  (h : At E fr (famsOf (hOf m) (famG b ty (es.drop k) :: fs)) T) : At E fr (famsOf (hOf m) (famG b ty es :: fs)) T := by
 have far : ∀ f ∈ fs, ∀ i, b ≤ lf f.b i → (lf f.b i - b) % 16 ≠ 0 := fun f hf i hb => by
  have h1 := hfs.mem f hf
  rw [Bool.and_eq_true, Bool.and_eq_true] at h1
  obtain ⟨⟨h1, h2⟩, h3⟩ := h1
  have h1 := Nat.le_of_ble_eq_true h1
  have h2 := Nat.le_of_ble_eq_true h2
  have h3 : f.b ≠ b := fun e => by rw [e] at h3; simp at h3
  unfold lf at hb ⊢
  omega
 refine At.ren (fun q => if b ≤ q ∧ (q - b) % 16 = 0 then q + 16 * k else q) (fun q r hq => ?_) (fun q q' r r' _ _ e => ?_) h
 ·
  by_cases hc : b ≤ q ∧ (q - b) % 16 = 0
  ·
   rw [if_pos hc]
   rcases famsOf_some hq with ⟨f, hf, i, hi, rfl, rfl⟩ | ⟨_, h0⟩
   ·
    rcases List.mem_cons.1 hf with rfl | hf
    ·
     have hi : i < (es.drop k).length := dlt_iff.1 hi
     rw [List.length_drop] at hi
     have h2 := (FamOk.hd (H := hOf m) (f := famG b ty es) (l := fs)) (k + i) (dlt_iff.2 (by omega))
     show famsOf _ _ (lf b i + 16 * k) = some (BG.row ty ((es.drop k).getD i default))
     rw [show lf b i + 16 * k = lf b (k + i) by unfold lf; omega]
     refine h2.trans (congrArg some ?_)
     show BG.row ty (es.getD (k + i) default) = _
     rw [List.getD_eq_getElem?_getD, List.getD_eq_getElem?_getD, List.getElem?_drop]
    · exact absurd hc.2 (far f hf i hc.1)
   ·
    obtain ⟨p, hp, rfl⟩ := hOf_mem h0
    have := hm.mem p hp
    have : p.1 < b := Nat.lt_of_lt_of_le (Nat.lt_of_succ_le (Nat.le_of_ble_eq_true this)) (Nat.le_refl _)
    omega
  ·
   rw [if_neg hc]
   have hf : ∀ D F, (⟨b, D, F⟩ : Fam).has q = false := fun D F => by
    unfold Fam.has
    rcases Nat.lt_or_ge q b with h1 | h1
    ·
     have : Nat.ble b q = false := by
      cases hb : Nat.ble b q with
      | false => rfl
      | true => have := Nat.le_of_ble_eq_true hb; omega
     dsimp only
     rw [this]; rfl
    ·
     have : Nat.beq ((q - b) % 16) 0 = false := by
      cases hb : Nat.beq ((q - b) % 16) 0 with
      | false => rfl
      | true => exact absurd ⟨h1, Nat.eq_of_beq_eq_true hb⟩ hc
     dsimp only
     rw [this, Bool.and_false]; rfl
   have e1 : famsOf (hOf m) (famG b ty (es.drop k) :: fs) q = famsOf (hOf m) fs q := by
    show (match (famG b ty (es.drop k)).has q with | true => _ | false => _) = _
    rw [show (famG b ty (es.drop k)).has q = false from hf _ _]
   have e2 : famsOf (hOf m) (famG b ty es :: fs) q = famsOf (hOf m) fs q := by
    show (match (famG b ty es).has q with | true => _ | false => _) = _
    rw [show (famG b ty es).has q = false from hf _ _]
   rw [e2, ← e1]
   exact hq
 ·
  by_cases h1 : b ≤ q ∧ (q - b) % 16 = 0 <;> by_cases h2 : b ≤ q' ∧ (q' - b) % 16 = 0
  · rw [if_pos h1, if_pos h2] at e; omega
  ·
   rw [if_pos h1, if_neg h2] at e
   exact absurd (show b ≤ q' ∧ (q' - b) % 16 = 0 by omega) h2
  ·
   rw [if_neg h1, if_pos h2] at e
   exact absurd (show b ≤ q ∧ (q - b) % 16 = 0 by omega) h1
  · rw [if_neg h1, if_neg h2] at e; exact e
section
variable {P : Program} {E : Env} {fr : Fr} {H : Hp} {o : Oper} {x y : Operand}
/-- append behind a slice that begins inside its block: pre lies ahead of it. -/
theorem S_appendD {α : Type} {f : α → Value} (d : Option Tmp) (k : Nat) {t tx e : TypeId} {D : TypeDesc} {by_ b n c m : Nat} {A : Option Addr} {z : Value} {pre l L : List α} {K : Fr → Hp → Prop}
  (ho : o.op = .call ⟨.builtin .append, #[x, y], #[t, tx]⟩) (ht : P.underlying t = some (.slice e)) (htx : P.underlying tx = some D) (hD : D = .string ∨ ∃ e', D = .slice e') (hz : tsz P e = some 1) (hby : tby P e = some by_) (hzz : tze P e = some z) (hzc : z.cells.size = 1)
  (hx : fr.ev x = some (.slice A n c)) (hA : 0 < c → A = some ⟨b, pre.length, none⟩) (hH : H k = some ⟨true, b, 0, e, (pre ++ l).map f, c - n⟩) (hn : l.length = n) (hnc : n ≤ c)
  (hs : Src P E fr H 1 y m (L.map f)) (h1 : ∀ u ∈ L.map f, u.oneCell' = true) (hmax : n + m ≤ 140737488355328) (hbytes : (n + m) * by_ ≤ 140737488355328)
  (h : ∀ (A' : Option Addr) (b' c' : Nat) (pre' : List α), (0 < c' → A' = some ⟨b', pre'.length, none⟩) → n + m ≤ c' → K (fr.put E.n d (.slice A' (n + m) c')) (H.set k ⟨true, b', 0, e, (pre' ++ (l ++ L)).map f, c' - (n + m)⟩)) (hd : o.dst = d := by rfl) : SStep P E true fr H o K := by
 subst hd
 intro a w R
 obtain ⟨s1, s2, s3⟩ := hs a w R
 have hLm : L.length = m := by rw [List.length_map] at s3; omega
 by_cases hroom : n + m ≤ c
 ·
  by_cases hc0 : c = 0
  ·
   subst hc0
   have hn0 : n = 0 := by omega
   have hm0 : m = 0 := by omega
   subst hm0
   have hl : l = [] := List.eq_nil_of_length_eq_zero (by omega)
   have hL : L = [] := List.eq_nil_of_length_eq_zero (by omega)
   subst hl hL
   have hrun := exec_append ho (a := a) (P := P) (w := w) (by
    rw [R.ev hx]
    exact run_append_room (D := D) ht htx hD hz s1 s2 hroom (w' := w) (by cases A <;> rfl))
   unfold Oper.wp
   rw [hrun]
   refine ⟨fun hh => (by cases hh), _, _, h A b 0 pre (fun h => absurd h (by omega)) hroom, ?_⟩
   have R' := R.put o.dst (.slice A (n + 0) 0)
   refine ⟨R'.df, R'.size, R'.fr, R.chg, ?_⟩
   have hself : H.set k ⟨true, b, 0, e, (pre ++ ([] ++ [])).map f, 0 - (n + 0)⟩ = H := by
    funext i
    unfold Hp.set
    split
    ·
     rename_i hi
     rw [Nat.eq_of_beq_eq_true hi, hH]
     rfl
    · rfl
   rw [hself]
   exact R'.heap
  ·
   have hA := hA (by omega)
   have hz0 : ((pre ++ l).map f).length + (c - n) ≠ 0 := by rw [List.length_map, List.length_append]; omega
   have hlen : ((pre ++ l).map f).length = pre.length + n := by rw [List.length_map, List.length_append]; omega
   obtain ⟨_, e2, e3, tl, fz, e4, e5, e6⟩ := R.heap.own_ hH rfl hz0
   dsimp only at e2 e3 e4 e5 e6
   obtain ⟨w', r1, r2, r3⟩ := run_stores (P := P) b (pre.length + n) e fz (L.map f) 0 ((pre ++ l).map f ++ tl) w e6 (by rw [List.length_append, hlen, e4, s3]; omega) (by rcases e5 with e5 | e5; exact Or.inl e5; right; rw [hlen] at e5; rw [List.length_append, hlen, e4]; exact e5) h1
   have hrun := exec_append ho (a := a) (P := P) (w := w) (by
    rw [R.ev hx]
    exact run_append_room (D := D) (A := A) ht htx hD hz s1 s2 hroom (w' := w') (by
     subst hA
     dsimp only
     rw [add_addr, Nat.mul_one]
     exact r1))
   unfold Oper.wp
   rw [hrun]
   refine ⟨fun hh => (by cases hh), _, _, h A b c pre (fun _ => hA) hroom, ?_⟩
   have R' := R.put o.dst (.slice A (n + m) c)
   refine ⟨R'.df, R'.size, R'.fr, R.chg.trans_new r2 ?_, ?_⟩
   ·
    intro q hq
    obtain rfl : q = b := by simpa using hq
    exact e3
   ·
    refine R.heap.write (r := ⟨true, b, 0, e, (pre ++ l).map f, c - n⟩) hH rfl hz0 (by dsimp only; simp only [List.length_append, List.length_map]; omega) r2 fun tl' fz' ht' hh' => ?_
    dsimp only at hh' ht' ⊢
    rw [e6] at hh'
    simp only [Option.some.injEq, Obj.cells.injEq] at hh'
    obtain ⟨g1, _, g3⟩ := hh'
    have g1 : (pre ++ l).map f ++ tl = (pre ++ l).map f ++ tl' := by simpa using g1
    have g1 := List.append_cancel_left g1
    subst g1 g3
    refine ⟨tl.drop m, by rw [List.length_drop, e4]; omega, ?_⟩
    rw [r3, Nat.add_zero]
    have : splice ((pre ++ l).map f ++ tl) (pre.length + n) (L.map f) = (pre ++ (l ++ L)).map f ++ tl.drop m := by
     unfold splice
     rw [← hlen, List.take_left, List.drop_append, List.drop_eq_nil_of_le (by omega), s3]
     simp [hLm]
    rw [this]
 ·
  have hold : (Builtin.firstCells 1 n (.slice A n c)).run P w.drew = .ok ((l.map f).toArray) w.drew := by
   by_cases hc0 : c = 0
   ·
    subst hc0
    have hn0 : n = 0 := by omega
    subst hn0
    have hl : l = [] := List.eq_nil_of_length_eq_zero hn
    subst hl
    cases A <;> simp [Builtin.firstCells, loadCells, loadCellsFrom]
   ·
    have hA := hA (by omega)
    subst hA
    have := run_loadCells_list (P := P) (w := w.drew) ⟨b, pre.length, none⟩ (l.map f) (fun i v hi => by
     rw [add_addr]
     have hq : ((pre ++ l).map f)[pre.length + i]? = some v := by
      rw [List.map_append, List.getElem?_append_right (by simp), List.length_map, Nat.add_sub_cancel_left]
      exact hi
     have := R.drew.heap.cell R.drew.chg hH hq
     rwa [Nat.zero_add] at this)
    rw [List.length_map, hn] at this
    simp [Builtin.firstCells, this]
  obtain ⟨c', hc', hr⟩ := run_append_grow (P := P) (ty := o.type) (A := A) ht htx hD hz hby hzz s1 (hs a w.drew R.drew).2.1 hold (by omega) hmax hbytes
  have hrun := exec_append ho (a := a) (P := P) (w := w) (by rw [R.ev hx]; exact hr)
  unfold Oper.wp
  rw [hrun]
  refine ⟨fun hh => (by cases hh), _, _, h (some ⟨w.heap.size, 0, none⟩) w.heap.size c' [] (fun _ => rfl) hc', ?_⟩
  have R' := R.put o.dst (.slice (some ⟨w.heap.size, 0, none⟩) (n + m) c')
  have hb : Below w.heap.size w (w.drew.alloc (.cells ((l.map f).toArray ++ (L.map f).toArray ++ Builtin.zeroCells z.cells (c' - (n + m))) e)) := (Below.refl _ _).drew.alloc (Nat.le_refl _) _
  refine ⟨R'.df, R'.size, R'.fr, R.chg.trans (Chg.of_below hb), ?_⟩
  have := R.heap.new R.chg hb k (l.map f ++ L.map f) (Builtin.zeroCells z.cells (c' - (n + m))).toList e (0, 0) (Or.inl rfl) w.heap.size (Nat.le_refl _) (by simp) (by
   have := heap_alloc_new w.drew (.cells ((l.map f).toArray ++ (L.map f).toArray ++ Builtin.zeroCells z.cells (c' - (n + m))) e)
   rw [World.size_drew] at this
   rw [this]
   simp)
  rw [Array.length_toList, size_zeroCells', hzc, Nat.mul_one, ← List.map_append] at this
  exact this
end
end SE
end Go

