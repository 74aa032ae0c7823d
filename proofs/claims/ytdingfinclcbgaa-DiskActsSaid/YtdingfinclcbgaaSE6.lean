/- Contracts over rows, and how a caller uses them. -/
import Derived.Test.YtdingfinclcbgaaSE5
namespace Go
namespace SE
open Go.RowKit
set_option linter.unusedVariables false
set_option linter.unusedSimpArgs false

def hL (rows : List Row) : Hp := fun k => rows[k]?
/-- The blocks of rows that may be written. -/
def ownB (rows : List Row) : List Nat := (rows.filter fun r => r.own && decide (r.cells.length + r.rest ≠ 0)).map (·.b)
theorem mem_ownB {rows : List Row} {b : Nat} : b ∈ ownB rows ↔ ∃ r ∈ rows, r.own = true ∧ r.cells.length + r.rest ≠ 0 ∧ r.b = b := by
  unfold ownB
  simp only [List.mem_map, List.mem_filter, Bool.and_eq_true, decide_eq_true_eq]
  constructor
  · rintro ⟨r, ⟨h1, h2, h3⟩, h4⟩; exact ⟨r, h1, h2, h3, h4⟩
  · rintro ⟨r, h1, h2, h3, h4⟩; exact ⟨r, ⟨h1, h2, h3⟩, h4⟩

/-- What a call with these rows at hand does. -/
def Con (P : Program) (f : FuncId) (args : List Value) (rows : List Row) (post : Value → List Row → Prop) : Prop :=
  ∀ w, HR ⟨w, ownB rows, 0, []⟩ (hL rows) w → Calls P f args.toArray w fun e w' => ∃ v rows', e = .returned v ∧ post v rows' ∧ Chg (ownB rows) w w' ∧ (∀ r ∈ rows', r.own = true) ∧ HR ⟨w, ownB rows, 0, []⟩ (hL rows') w'

theorem Con.mono {P : Program} {f : FuncId} {args : List Value} {rows : List Row} {post post' : Value → List Row → Prop} (h : Con P f args rows post) (hp : ∀ v rs, post v rs → post' v rs) : Con P f args rows post' :=
  fun w hw => (h w hw).mono fun e w' ⟨v, rs, h1, h2, h3⟩ => ⟨v, rs, h1, hp v rs h2, h3⟩
/-- r' shows a part of r, to be read. -/
def View (r r' : Row) : Prop := r'.own = false ∧ r'.b = r.b ∧ ∃ j, r'.s = r.s + j ∧ ∀ i v, r'.cells[i]? = some v → r.cells[j + i]? = some v
theorem View.all {b s t rest : Nat} {ow : Bool} {cs : List Value} {ty ty' : TypeId} : View ⟨ow, b, s, ty, cs, rest⟩ ⟨false, b, s, ty', cs, t⟩ := ⟨rfl, rfl, 0, rfl, fun i v h => by rwa [Nat.zero_add]⟩
theorem View.part {b s j m t rest : Nat} {ow : Bool} {cs : List Value} {ty ty' : TypeId} : View ⟨ow, b, s, ty, cs, rest⟩ ⟨false, b, s + j, ty', (cs.drop j).take m, t⟩ := ⟨rfl, rfl, j, rfl, fun i v h => by
  rw [List.getElem?_take] at h
  split at h
  · rwa [List.getElem?_drop] at h
  · cases h⟩

def Hp.dels (H : Hp) : List Nat → Hp
  | [] => H
  | k :: l => (H.del k).dels l
def Hp.sets (H : Hp) : List Nat → List Row → Hp
  | k :: l, r :: rs => (H.set k r).sets l rs
  | _, _ => H
theorem nodup_inj {α : Type} : ∀ {l : List α} {i j : Nat} {x : α}, l.Nodup → l[i]? = some x → l[j]? = some x → i = j
  | [], i, j, x, _, h, _ => by simp at h
  | a :: l, 0, 0, x, _, _, _ => rfl
  | a :: l, 0, j + 1, x, hd, h, h' => by
    have h1 : a = x := by simpa using h
    have h2 : x ∈ l := List.mem_of_getElem? (by simpa using h')
    exact absurd (h1 ▸ h2) (List.nodup_cons.1 hd).1
  | a :: l, i + 1, 0, x, hd, h, h' => by
    have h1 : a = x := by simpa using h'
    have h2 : x ∈ l := List.mem_of_getElem? (by simpa using h)
    exact absurd (h1 ▸ h2) (List.nodup_cons.1 hd).1
  | a :: l, i + 1, j + 1, x, hd, h, h' => by
    exact congrArg (· + 1) (nodup_inj (l := l) (List.nodup_cons.1 hd).2 (by simpa using h) (by simpa using h'))
theorem Hp.dels_some {k : Nat} {r : Row} : ∀ {l : List Nat} {H : Hp}, H.dels l k = some r → k ∉ l ∧ H k = some r
  | [], H, h => ⟨by simp, h⟩
  | d :: l, H, h => by
    obtain ⟨h1, h2⟩ := Hp.dels_some (l := l) (H := H.del d) h
    obtain ⟨h3, h4⟩ := Hp.del_some h2
    exact ⟨by simp [h3, h1], h4⟩
theorem Hp.sets_some {k : Nat} {r : Row} : ∀ {l : List Nat} {rs : List Row} {H : Hp}, l.length = rs.length → l.Nodup → H.sets l rs k = some r → (∃ i : Nat, l[i]? = some k ∧ rs[i]? = some r) ∨ (k ∉ l ∧ H k = some r)
  | [], [], H, _, _, h => Or.inr ⟨by simp, h⟩
  | d :: l, x :: rs, H, hl, hd, h => by
    rcases Hp.sets_some (l := l) (rs := rs) (H := H.set d x) (by simpa using hl) (List.nodup_cons.1 hd).2 h with ⟨i, h1, h2⟩ | ⟨h1, h2⟩
    · exact Or.inl ⟨i + 1, by simpa using h1, by simpa using h2⟩
    · rcases Hp.set_some h2 with ⟨rfl, rfl⟩ | ⟨h3, h4⟩
      · exact Or.inl ⟨0, rfl, rfl⟩
      · exact Or.inr ⟨by simp [h3, h1], h4⟩
  | [], _ :: _, _, hl, _, _ => by simp at hl
  | _ :: _, [], _, hl, _, _ => by simp at hl

section
variable {E : Env} {H : Hp} {w w' : World}
theorem HR.lift (h : HR E H w) (hc : Chg E.S E.W0 w) (owns views : List (Nat × Row)) (ho : ∀ p ∈ owns, H p.1 = some p.2 ∧ p.2.own = true) (hd : (owns.map (·.1)).Nodup)
    (hv : ∀ p ∈ views, p.2.cells = [] ∧ p.2.own = false ∨ p.1 ∉ owns.map (·.1) ∧ ∃ r, H p.1 = some r ∧ View r p.2) :
    HR ⟨w, ownB (owns.map (·.2) ++ views.map (·.2)), 0, []⟩ (hL (owns.map (·.2) ++ views.map (·.2))) w := by
  have hvo : ∀ p ∈ views, p.2.own = false := fun p hp => by
    rcases hv p hp with h1 | ⟨_, r, _, h3, _⟩
    · exact h1.2
    · exact h3
  have hmem : ∀ k r, hL (owns.map (·.2) ++ views.map (·.2)) k = some r → (∃ p, owns[k]? = some p ∧ p.2 = r) ∨ (∃ p ∈ views, p.2 = r) := fun k r hk => by
    unfold hL at hk
    rw [List.getElem?_append] at hk
    split at hk
    · rw [List.getElem?_map, Option.map_eq_some_iff] at hk
      exact Or.inl hk
    · obtain ⟨p, hp, hpr⟩ := List.mem_map.1 (List.mem_of_getElem? hk)
      exact Or.inr ⟨p, hp, hpr⟩
  refine ⟨fun k r hk => ?_, fun k k' r r' hk hk' ho1 ho2 hne hz hz' => ?_⟩
  · rcases hmem k r hk with ⟨p, hp, rfl⟩ | ⟨p, hp, rfl⟩
    · have hpm := List.mem_of_getElem? hp
      obtain ⟨h1, h2⟩ := ho p hpm
      have h3 := h.row p.1 p.2 h1
      unfold RowR at h3 ⊢
      rw [h2] at h3 ⊢
      refine ⟨h3.1, fun hz => ?_⟩
      obtain ⟨g1, g2, g3⟩ := h3.2 hz
      exact ⟨g1, Or.inl (mem_ownB.2 ⟨p.2, List.mem_append_left _ (List.mem_map.2 ⟨p, hpm, rfl⟩), h2, hz, rfl⟩), g3⟩
    · unfold RowR
      rw [hvo p hp]
      intro hne
      rcases hv p hp with h1 | ⟨h1, r, h2, h3, h4, j, h5, h6⟩
      · exact absurd h1.1 hne
      · obtain ⟨v0, hv0⟩ : ∃ v0, p.2.cells[0]? = some v0 := by
          cases hcs : p.2.cells with
          | nil => exact absurd hcs hne
          | cons a l => exact ⟨a, by simp⟩
        have hr0 := h6 0 v0 hv0
        have hlt : j + 0 < r.cells.length := (List.getElem?_eq_some_iff.1 hr0).1
        refine ⟨?_, ?_, fun i v hi => ?_⟩
        · dsimp only
          rw [h4]
          cases hro : r.own with
          | true => exact (h.own_ h2 hro (by omega)).2.1
          | false =>
            have h7 := h.row p.1 r h2
            unfold RowR at h7
            rw [hro] at h7
            have h8 := (h7 (by rintro he; rw [he] at hlt; simp at hlt)).1
            exact Nat.lt_of_lt_of_le h8 hc.size
        · dsimp only
          intro hm
          obtain ⟨q, hq, q1, q2, q3⟩ := mem_ownB.1 hm
          rcases List.mem_append.1 hq with hq | hq
          · obtain ⟨z, hz1, rfl⟩ := List.mem_map.1 hq
            obtain ⟨z2, z3⟩ := ho z hz1
            have hzk : z.1 ≠ p.1 := fun he => h1 (he ▸ List.mem_map.2 ⟨z, hz1, rfl⟩)
            cases hro : r.own with
            | true => exact h.apart z.1 p.1 z.2 r z2 h2 z3 hro hzk q2 (by omega) (by rw [q3, h4])
            | false =>
              have h7 := h.row p.1 r h2
              unfold RowR at h7
              rw [hro] at h7
              obtain ⟨h8, h9, _⟩ := h7 (by rintro he; rw [he] at hlt; simp at hlt)
              obtain ⟨_, _, g3, _⟩ := h.own_ z2 z3 q2
              rw [q3, h4] at g3
              rcases g3 with g3 | g3
              · exact h9 g3
              · omega
          · obtain ⟨z, hz1, rfl⟩ := List.mem_map.1 hq
            rw [hvo z hz1] at q1
            cases q1
        · dsimp only
          rw [h4, h5, Nat.add_assoc]
          exact h.cell hc h2 (h6 i v hi)
  · rcases hmem k r hk with ⟨p, hp, rfl⟩ | ⟨p, hp, rfl⟩
    · rcases hmem k' r' hk' with ⟨q, hq, rfl⟩ | ⟨q, hq, rfl⟩
      · refine h.apart p.1 q.1 p.2 q.2 (ho p (List.mem_of_getElem? hp)).1 (ho q (List.mem_of_getElem? hq)).1 ho1 ho2 (fun he => hne ?_) hz hz'
        have e1 : (owns.map (·.1))[k]? = some p.1 := by rw [List.getElem?_map, hp]; rfl
        have e2 : (owns.map (·.1))[k']? = some p.1 := by rw [List.getElem?_map, hq, he]; rfl
        exact nodup_inj hd e1 e2
      · rw [hvo q hq] at ho2; cases ho2
    · rw [hvo p hp] at ho1; cases ho1

theorem HR.back (h : HR E H w) (hc : Chg E.S E.W0 w) (owns views : List (Nat × Row)) (ho : ∀ p ∈ owns, H p.1 = some p.2 ∧ p.2.own = true) (hv : ∀ p ∈ views, p.2.own = false)
    {rows' : List Row} (hch : Chg (ownB (owns.map (·.2) ++ views.map (·.2))) w w') (hro : ∀ r ∈ rows', r.own = true) (h' : HR ⟨w, ownB (owns.map (·.2) ++ views.map (·.2)), 0, []⟩ (hL rows') w') (ks : List Nat) (hl : ks.length = rows'.length) (hk : ks.Nodup) :
    HR E ((H.dels (owns.map (·.1))).sets ks rows') w' ∧ Chg E.S E.W0 w' := by
  have hS : ∀ b ∈ ownB (owns.map (·.2) ++ views.map (·.2)), ∃ p ∈ owns, p.2.b = b ∧ p.2.cells.length + p.2.rest ≠ 0 := fun b hb => by
    obtain ⟨q, hq, q1, q2, q3⟩ := mem_ownB.1 hb
    rcases List.mem_append.1 hq with hq | hq
    · obtain ⟨z, hz1, rfl⟩ := List.mem_map.1 hq
      exact ⟨z, hz1, q3, q2⟩
    · obtain ⟨z, hz1, rfl⟩ := List.mem_map.1 hq
      rw [hv z hz1] at q1
      cases q1
  have hS2 : ∀ b ∈ ownB (owns.map (·.2) ++ views.map (·.2)), b ∈ E.S ∨ E.W0.heap.size ≤ b := fun b hb => by
    obtain ⟨p, hp, rfl, hz⟩ := hS b hb
    exact (h.own_ (ho p hp).1 (ho p hp).2 hz).2.2.1
  -- rows of the caller that the call did not get
  have hold : ∀ k r, k ∉ owns.map (·.1) → H k = some r → r.own = true → r.cells.length + r.rest ≠ 0 → r.b ∉ ownB (owns.map (·.2) ++ views.map (·.2)) := fun k r hk0 hr hrow hrz hm => by
    obtain ⟨p, hp, hpb, hz⟩ := hS _ hm
    exact h.apart p.1 k p.2 r (ho p hp).1 hr (ho p hp).2 hrow (fun he => hk0 (he ▸ List.mem_map.2 ⟨p, hp, rfl⟩)) hz hrz hpb
  have hnew : ∀ (i : Nat) (r : Row), rows'[i]? = some r → r.cells.length + r.rest ≠ 0 → (r.b ∈ ownB (owns.map (·.2) ++ views.map (·.2)) ∨ w.heap.size ≤ r.b) := fun i r hr hz =>
    (h'.own_ (k := i) hr (hro r (List.mem_of_getElem? hr)) hz).2.2.1
  have key : ∀ (k : Nat) (r : Row) (i : Nat) (r' : Row), k ∉ owns.map (·.1) → H k = some r → r.own = true → r.cells.length + r.rest ≠ 0 → rows'[i]? = some r' → r'.cells.length + r'.rest ≠ 0 → r.b ≠ r'.b := fun k r i r' hk0 hr hrow hrz hr' hz' he => by
    rcases hnew i r' hr' hz' with h1 | h1
    · exact hold k r hk0 hr hrow hrz (he ▸ h1)
    · have := (h.own_ hr hrow hrz).2.1; omega
  refine ⟨⟨fun k r hkr => ?_, fun k k' r r' hkr hkr' ho1 ho2 hne hz hz' => ?_⟩, hc.trans_new hch hS2⟩
  · rcases Hp.sets_some hl hk hkr with ⟨i, h1, h2⟩ | ⟨_, h2⟩
    · have hrow := h'.row i r h2
      have hown := hro r (List.mem_of_getElem? h2)
      unfold RowR at hrow ⊢
      rw [hown] at hrow ⊢
      refine ⟨hrow.1, fun hz => ?_⟩
      obtain ⟨g1, g2, g3⟩ := hrow.2 hz
      refine ⟨g1, ?_, g3⟩
      rcases g2 with g2 | g2
      · exact hS2 _ g2
      · have := hc.size; exact Or.inr (Nat.le_trans hc.size g2)
    · obtain ⟨h3, h4⟩ := Hp.dels_some h2
      exact (h.row k r h4).chg hch (fun hrow hrz => hold k r h3 h4 hrow hrz)
  · rcases Hp.sets_some hl hk hkr with ⟨i, h1, h2⟩ | ⟨_, h2⟩ <;> rcases Hp.sets_some hl hk hkr' with ⟨i', h1', h2'⟩ | ⟨_, h2'⟩
    · exact h'.apart i i' r r' h2 h2' ho1 ho2 (fun he => hne (by subst he; rw [h1] at h1'; exact Option.some.inj h1')) hz hz'
    · obtain ⟨h3, h4⟩ := Hp.dels_some h2'
      exact fun he => key k' r' i r h3 h4 ho2 hz' h2 hz he.symm
    · obtain ⟨h3, h4⟩ := Hp.dels_some h2
      exact key k r i' r' h3 h4 ho1 hz h2' hz'
    · obtain ⟨h3, h4⟩ := Hp.dels_some h2
      obtain ⟨h3', h4'⟩ := Hp.dels_some h2'
      exact h.apart k k' r r' h4 h4' ho1 ho2 hne hz hz'
end

def OwnsOk (H : Hp) : List (Nat × Row) → Prop := AllL fun p => H p.1 = some p.2 ∧ p.2.own = true
def ViewsOk (H : Hp) (owns : List (Nat × Row)) : List (Nat × Row) → Prop := AllL fun p => p.2.cells = [] ∧ p.2.own = false ∨ p.1 ∉ owns.map (·.1) ∧ ∃ r, H p.1 = some r ∧ View r p.2

theorem AllL.cons_ {α : Type} {p : α → Prop} {x : α} : ∀ {l : List α}, p x → AllL p l → AllL p (x :: l)
  | [], h, _ => h
  | _ :: _, h, t => ⟨h, t⟩
theorem V0 {H : Hp} {owns : List (Nat × Row)} : ViewsOk H owns [] := trivial
theorem VN {H : Hp} {owns l : List (Nat × Row)} {k : Nat} {r r' : Row} (hk : k ∉ owns.map (·.1)) (hH : H k = some r) (hv : View r r') (t : ViewsOk H owns l) : ViewsOk H owns ((k, r') :: l) :=
  AllL.cons_ (Or.inr ⟨hk, r, hH, hv⟩) t
/-- .. of nothing. -/
theorem VE {H : Hp} {owns l : List (Nat × Row)} {k : Nat} {r' : Row} (hc : r'.cells = []) (ho : r'.own = false) (t : ViewsOk H owns l) : ViewsOk H owns ((k, r') :: l) := AllL.cons_ (Or.inl ⟨hc, ho⟩) t
theorem O0 {H : Hp} : OwnsOk H [] := trivial
theorem ON {H : Hp} {l : List (Nat × Row)} {k : Nat} {r : Row} (hH : H k = some r) (ho : r.own = true) (t : OwnsOk H l) : OwnsOk H ((k, r) :: l) := AllL.cons_ ⟨hH, ho⟩ t
section
variable {P : Program} {E : Env} {fr : Fr} {H : Hp} {o : Oper} {v : Value}
/-- A call by its contract. -/
theorem S_callR (d : Option Tmp) (owns views : List (Nat × Row)) (ks : List Nat) {f : FuncId} {xs : List Operand} {tys : Array TypeId} {vs : List Value} {K : Fr → Hp → Prop} {post : Value → List Row → Prop} (ho : o.op = .call ⟨.value (.func f), xs.toArray, tys⟩) (he : entersB P f = true) (ha : ArgsOk fr xs vs)
    (hO : OwnsOk H owns) (hd : (owns.map (·.1)).Nodup) (hV : ViewsOk H owns views) (hk : ks.Nodup)
    (hcon : Con P f vs (owns.map (·.2) ++ views.map (·.2)) post) (hl : ∀ v rows', post v rows' → ks.length = rows'.length)
    (h : ∀ v rows', post v rows' → K (fr.put E.n d v) ((H.dels (owns.map (·.1))).sets ks rows')) (hd : o.dst = d := by rfl) : SStep P E true fr H o K := by
  subst hd
  refine S_call _ ho he ha fun w hw hH => ?_
  refine (hcon w (hH.lift hw owns views hO.mem hd hV.mem)).mono fun e w' ⟨v, rows', h1, h2, h3, h4, h5⟩ => ?_
  have hvo : ∀ p ∈ views, p.2.own = false := fun p hp => by
    rcases hV.mem p hp with h1 | ⟨_, r, _, h3, _⟩
    · exact h1.2
    · exact h3
  obtain ⟨h6, h7⟩ := hH.back hw owns views hO.mem hvo h3 h4 h5 ks (hl v rows' h2) hk
  exact ⟨v, _, h1, fun h => (by cases h), h7, h6, h v rows' h2⟩
theorem ownB_views {l : List Row} (h : ∀ r ∈ l, r.own = false) : ownB l = [] := by
  apply List.eq_nil_iff_forall_not_mem.2
  intro b hb
  obtain ⟨r, h1, h2, _⟩ := mem_ownB.1 hb
  rw [h r h1] at h2
  cases h2
/-- .. of a callee that only reads: it may stand among others in a region that draws. -/
theorem S_callV (d : Option Tmp) (views : List (Nat × Row)) (ks : List Nat) {f : FuncId} {xs : List Operand} {tys : Array TypeId} {vs : List Value} {K : Fr → Hp → Prop} {post : Value → List Row → Prop} (ho : o.op = .call ⟨.value (.func f), xs.toArray, tys⟩) (he : entersB P f = true) (ha : ArgsOk fr xs vs)
    (hV : ViewsOk H [] views) (hk : ks.Nodup)
    (hcon : Con P f vs (views.map (·.2)) post) (hl : ∀ v rows', post v rows' → ks.length = rows'.length)
    (h : ∀ v rows', post v rows' → K (fr.put E.n d v) (H.sets ks rows')) (hd : o.dst = d := by rfl) : SStep P E false fr H o K := by
  subst hd
  refine S_call _ ho he ha fun w hw hH => ?_
  have hl0 := hH.lift hw [] views (by simp) (by simp) hV.mem
  simp only [List.map_nil, List.nil_append] at hl0
  refine (hcon w hl0).mono fun e w' ⟨v, rows', h1, h2, h3, h4, h5⟩ => ?_
  have hvo : ∀ p ∈ views, p.2.own = false := fun p hp => by
    rcases hV.mem p hp with h1 | ⟨_, r, _, h3, _⟩
    · exact h1.2
    · exact h3
  obtain ⟨h6, h7⟩ := hH.back hw [] views (by simp) hvo (rows' := rows') (by simpa using h3) h4 (by simpa using h5) ks (hl v rows' h2) hk
  have hnil : ownB (views.map (·.2)) = [] := ownB_views fun r hr => by
    obtain ⟨p, hp, rfl⟩ := List.mem_map.1 hr
    exact hvo p hp
  rw [hnil] at h3
  exact ⟨v, _, h1, fun _ => h3.below, h7, h6, h v rows' h2⟩
variable {l : List Oper} {Q : Exit → Act → World → Prop} {n : Nat} {segs : List RG.Seg} {is : List Nat} {i : Nat}
/-- .. and whose answer leaves nothing in memory: a quiet one. -/
theorem At.wcV (d : Option Tmp) (views : List (Nat × Row)) {f : FuncId} {xs : List Operand} {tys : Array TypeId} {vs : List Value} (ho : (l.getD i default).op = .call ⟨.value (.func f), xs.toArray, tys⟩) (he : entersB P f = true) (ha : ArgsOk fr xs vs)
    (hV : ViewsOk H [] views) (hcon : Con P f vs (views.map (·.2)) fun u rows' => u = v ∧ rows' = [])
    (h' : At E (fr.put E.n d v) H (WX P l Q n (.q false is :: segs))) (hg : (l.getD i default).guard = none := by rfl) (hd : (l.getD i default).dst = d := by rfl) : At E fr H (WX P l Q n (.q false (i :: is) :: segs)) := by
  refine At.wc d ho he ha (fun w hw hH => ?_) h' hg hd
  have hl0 := hH.lift hw [] views (by simp) (by simp) hV.mem
  simp only [List.map_nil, List.nil_append] at hl0
  refine (hcon w hl0).mono fun e w' ⟨u, rows', h1, ⟨hu, _⟩, h3, h4, h5⟩ => ?_
  have hvo : ∀ p ∈ views, p.2.own = false := fun p hp => by
    rcases hV.mem p hp with h1 | ⟨_, r, _, h3, _⟩
    · exact h1.2
    · exact h3
  have hnil : ownB (views.map (·.2)) = [] := ownB_views fun r hr => by
    obtain ⟨p, hp, rfl⟩ := List.mem_map.1 hr
    exact hvo p hp
  rw [hnil] at h3
  exact ⟨hu ▸ h1, h3.below⟩
/-- A contract, from a walk. -/
theorem Con.enter {f : FuncId} {fn : Func} {c : Code} {args : List Value} {rows : List Row} {post : Value → List Row → Prop} {n : Nat} (hf : P.funcs[f]? = some fn) (hn : fn.ntmps = n) (hle : args.length ≤ n) (hb : fn.body = some c)
    (h : ∀ w, At ⟨w, ownB rows, n, []⟩ (frA args) (hL rows)
      (c.wp P (bodyPost P fn fun e w' => ∃ v rows', e = .returned v ∧ post v rows' ∧ Chg (ownB rows) w w' ∧ (∀ r ∈ rows', r.own = true) ∧ HR ⟨w, ownB rows, 0, []⟩ (hL rows') w'))) : Con P f args rows post :=
  fun w hw => _root_.Go.SE.enter (ownB rows) (hL rows) hf hb hn hle ⟨hw.row, hw.apart⟩ (h w)
/-- The end of such a walk: the labels of the rows that are handed back. -/
theorem At.give {fn : Func} {rs : List ResultVar} {vs : List Value} {rows : List Row} {post : Value → List Row → Prop} {w0 : World} {m : Nat} {T : Exit} (hT : T = .ret ∨ T = .normal) (ks : List Nat) {rows' : List Row} (hr : fn.results = rs.toArray) (hv : ResOk fr rs vs)
    (hk : ks.map H = rows'.map some) (hd : ks.Nodup) (ho : ∀ r ∈ rows', r.own = true) (hp : post (retV vs) rows') (hl : rs.length ≤ 4 := by decide) :
    At ⟨w0, ownB rows, m, []⟩ fr H (bodyPost P fn (fun e w' => ∃ v rows', e = .returned v ∧ post v rows' ∧ Chg (ownB rows) w0 w' ∧ (∀ r ∈ rows', r.own = true) ∧ HR ⟨w0, ownB rows, 0, []⟩ (hL rows') w') T) := by
  have key : At ⟨w0, ownB rows, m, []⟩ fr H (bodyPost P fn (fun e w' => ∃ v rows', e = .returned v ∧ post v rows' ∧ Chg (ownB rows) w0 w' ∧ (∀ r ∈ rows', r.own = true) ∧ HR ⟨w0, ownB rows, 0, []⟩ (hL rows') w') .ret) := by
    refine At.done rfl hr hv (fun w hw hH => ⟨_, rows', rfl, hp, hw, ho, ?_⟩) hl
    have hat : ∀ i r, hL rows' i = some r → ∃ k, ks[i]? = some k ∧ H k = some r := fun i r hi => by
      have h1 : (rows'.map some)[i]? = some (some r) := by
        rw [List.getElem?_map]
        unfold hL at hi
        rw [hi]
        rfl
      rw [← hk, List.getElem?_map, Option.map_eq_some_iff] at h1
      exact h1
    refine ⟨fun i r hi => ?_, fun i j r r' hi hj h1 h2 hne hz hz' => ?_⟩
    · obtain ⟨k, _, hk2⟩ := hat i r hi
      exact hH.row k r hk2
    · obtain ⟨k, hk1, hk2⟩ := hat i r hi
      obtain ⟨k', hk1', hk2'⟩ := hat j r' hj
      refine hH.apart k k' r r' hk2 hk2' h1 h2 (fun he => hne ?_) hz hz'
      subst he
      exact nodup_inj hd hk1 hk1'
  rcases hT with rfl | rfl
  · exact key
  · exact key
end
end SE
end Go
