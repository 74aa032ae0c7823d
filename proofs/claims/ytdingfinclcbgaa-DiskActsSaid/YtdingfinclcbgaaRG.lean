/-
  A region that draws its order, walked once: quiet operations as soon as they may come up, then the one operation that acts; new variables whose addresses nobody in the region's head asks for come last.
-/
import Derived.Still
import Derived.Deep.Quiet
import Derived.StillTail
import Derived.Tactics
import Derived.Below
namespace Go
namespace RG
open Go.RowKit

/-- w' is w with new blocks. -/
abbrev Ext (w w' : World) : Prop := Below w.heap.size w w'
theorem Ext.refl (w : World) : Ext w w := Below.refl _ _
theorem Ext.trans {a b c : World} (h : Ext a b) (k : Ext b c) : Ext a c := Below.trans h (k.mono h.size)

/-- The worlds that are w with new blocks. -/
structure ExtOf (w : World) where
  val : World
  ext : Ext w val
instance (w : World) : Nonempty (ExtOf w) := ⟨⟨w, Ext.refl w⟩⟩
@[go_sem] theorem ExtOf.cell? {w : World} (y : ExtOf w) (b o : Nat) (h : b < w.heap.size) : y.val.cell? ⟨b, o, none⟩ = w.cell? ⟨b, o, none⟩ := y.ext.cell (p := ⟨b, o, none⟩) h
@[go_sem] theorem ExtOf.frozen? {w : World} (y : ExtOf w) (b o : Nat) (h : b < w.heap.size) : y.val.frozen? ⟨b, o, none⟩ = w.frozen? ⟨b, o, none⟩ := y.ext.frozen (p := ⟨b, o, none⟩) h
/-- What quiet operations may make of the world: nothing; or new blocks. -/
abbrev ClE (w x : World) : Prop := x = w
abbrev ClX (w x : World) : Prop := ∃ y : ExtOf w, x = y.val
theorem ClX.ext {w x : World} (h : ClX w x) : Ext w x := by obtain ⟨y, rfl⟩ := h; exact y.ext
theorem ClX.mk {w x : World} (h : Ext w x) : ClX w x := ⟨⟨x, h⟩, rfl⟩
/-- A contract, met by a quiet operation. -/
theorem quiet_call {P : Program} {f : FuncId} {args : Array Value} {w : World} {y : ExtOf w} {v : Value} (h : Calls P f args y.val fun e w' => e = .returned v ∧ Below y.val.heap.size y.val w') :
    Calls P f args y.val fun e w' => e = .returned v ∧ ClX w w' := h.mono fun _ _ ⟨he, hb⟩ => ⟨he, ClX.mk (y.ext.trans hb)⟩

/-- A step of the walk: quiet operations ('true': they yield in whatever world), or one that acts ('true': it may write what was there). -/
inductive Seg where
  | q (strong : Bool) (is : List Nat)
  | e (any : Bool) (j : Nat)

def pick (l : List Oper) (is : List Nat) : List Oper := is.map fun i => l.getD i default

section
variable {P : Program} {l : List Oper} {Q : Exit → Act → World → Prop} {md : Region.Mode}

/-- What is asked behind an operation that acts. -/
def effQ (Q : Exit → Act → World → Prop) (any : Bool) (w : World) (K : Act → World → Prop) : Exit → Act → World → Prop
  | .normal, a, w' => (any = false → Ext w w') ∧ K a w'
  | .outgrown, a, w' => Q .outgrown a w'
  | _, _, _ => False

/-- The walk in its one order. R: what others may have done ahead of an operation that acts. -/
def W (P : Program) (l : List Oper) (Q : Exit → Act → World → Prop) (R Cl : World → World → Prop) (F : Act → World → Prop) : List Seg → Act → World → Prop
  | [], a, w => F a w
  | .q s is :: rest, a, w => ∃ A, (∀ w', (s = true ∨ Ext w w') → wpQuiet P l.toArray (Cl w') (fun a' => a' = A) (pick l is) a) ∧ W P l Q R Cl F rest A w
  | .e any j :: rest, a, w => ∀ w', R w w' → wpList P l.toArray (effQ Q any w' (W P l Q R Cl F rest)) (pick l [j]) a w'

end

section
variable {P : Program} {ops : Array Oper} {Q : Exit → Act → World → Prop} {md : Region.Mode}

/-- No panic. -/
def QX (Q : Exit → Act → World → Prop) : Exit → Act → World → Prop
  | .panic _, _, _ => False
  | e, a, w => Q e a w

theorem wp_monoQ {o : Oper} {a : Act} {w : World} {K K' : Act → World → Prop} {Q Q' : Exit → Act → World → Prop} (hK : ∀ a w, K a w → K' a w)
    (hp : ∀ c a w, Q (.panic c) a w → Q' (.panic c) a w) (ho : LetsOut Q → LetsOut Q') (h : o.wp P a w K Q) : o.wp P a w K' Q' := by
  unfold Oper.wp at *
  generalize (execOp a.eval o).run P w = r at *
  cases r with
  | ok n w' =>
    cases n <;> simp only [Oper.upon] at h ⊢ <;>
      first
        | exact hK _ _ h
        | exact Calls.mono h (fun e w'' he => by cases e <;> first | exact hK _ _ he | exact hp _ _ _ he | exact ho he)
        | exact Rows.mono h (fun _ _ he => hK _ _ he)
  | halt x w' => cases x <;> simp only [Oper.upon] at h ⊢ <;> exact hp _ _ _ h

theorem wpOp_monoQ {i : Nat} {a : Act} {w : World} {K K' : Act → World → Prop} {Q Q' : Exit → Act → World → Prop} (hK : ∀ a w, K a w → K' a w)
    (hp : ∀ c a w, Q (.panic c) a w → Q' (.panic c) a w) (ho : LetsOut Q → LetsOut Q') (h : wpOp P ops Q i K a w) : wpOp P ops Q' i K' a w := by
  unfold wpOp at *
  split
  · rename_i hn; simp only [hn] at h; exact hK _ _ h
  · rename_i o hs
    simp only [hs] at h
    split
    · rename_i hw
      simp only [hw, if_true] at h
      rcases h with h | ⟨ha, hl⟩
      · exact .inl (wp_monoQ hK hp ho h)
      · exact .inr ⟨ha, ho hl⟩
    · rename_i hw; simp only [hw] at h; exact hK _ _ h

/-- An operation past the value of another one, from which it is apart. -/
theorem wpOp_past {j : Nat} {oi oj : Oper} {v : Value} (hj : ops[j]? = some oj) (hap : oi.apart ops oj = true)
    (hsj : ∀ cs b, oj.op ≠ .select cs b) (hQ : ∀ c a w, Q (.panic c) a w → False) {K : Act → World → Prop} {Y : Act → Prop} {a : Act} {w : World}
    (hY : Y a) (hYp : ∀ a u, Y a → Y (a.put oj.dst u)) (hYd : ∀ (a : Act) d, Y a → Y { a with defers := d :: a.defers })
    (h : wpOp P ops Q j K (a.put oi.dst v) w) :
    wpOp P ops Q j (fun a' w' => Y a' ∧ K (a'.put oi.dst v) w') a w := by
  obtain ⟨h1, h2, h3⟩ := Oper.apart_spec hap
  unfold wpOp at *
  simp only [hj] at *
  rw [wanted_put oj a oi.dst v h1] at h
  split
  · rename_i hw
    simp only [hw, if_true] at h
    rcases h with h | ⟨hasks, hlets⟩
    case inr => exact .inr ⟨by unfold Oper.asks at *; rw [execOp_put oj hsj a oi.dst v h1] at hasks; exact hasks, hlets⟩
    refine .inl ?_
    unfold Oper.wp at *
    rw [execOp_put oj hsj a oi.dst v h1] at h
    generalize (execOp a.eval oj).run P w = r at *
    cases r with
    | ok n w' =>
      cases n <;> simp only [Oper.upon] at h ⊢
      case value u => exact ⟨hYp a u hY, by rw [← Act.put_comm a v u h2]; exact h⟩
      case skip => exact ⟨hYp a _ hY, by rw [← Act.put_comm a v undef h2]; exact h⟩
      case defer d =>
        refine ⟨hYp _ _ (hYd _ d hY), ?_⟩
        rw [← Act.put_comm _ v undef h2, ← Act.put_defers]
        exact h
      case enter f args =>
        refine Calls.mono h fun e w'' he => ?_
        cases e with
        | returned u => exact ⟨hYp a u hY, by rw [← Act.put_comm a v u h2]; exact he⟩
        | panicked c => exact (hQ _ _ _ he).elim
        | outgrown => exact he
      case row row args => exact Rows.mono h fun u w'' he => ⟨hYp a u hY, by rw [← Act.put_comm a v u h2]; exact he⟩
    | halt x w' =>
      cases x <;> simp only [Oper.upon] at h ⊢
      case panic u => exact (hQ _ _ _ h).elim
  · rename_i hw
    simp only [hw] at h
    exact ⟨hYp a _ hY, by rw [← Act.put_comm a v undef h2]; exact h⟩

/-- The other way: a value more in the frame, to which the operation is blind. -/
theorem wpOp_more {j : Nat} {oj : Oper} {d : Tmp} {v : Value} (hj : ops[j]? = some oj) (h1 : d ∉ oj.looksAt ops) (h2 : oj.dst ≠ some d)
    (hsj : ∀ cs b, oj.op ≠ .select cs b) (hQ : ∀ c a w, Q (.panic c) a w → False) {K : Act → World → Prop} {a : Act} {w : World}
    (h : wpOp P ops Q j K a w) : wpOp P ops Q j (fun a' w' => ∃ b, a' = Act.put b (some d) v ∧ K b w') (a.put (some d) v) w := by
  have h1' : ∀ e, some d = some e → e ∉ oj.looksAt ops := fun e he => by cases he; exact h1
  have h2' : ∀ e, some d = some e → oj.dst ≠ some e := fun e he => by cases he; exact h2
  unfold wpOp at *
  simp only [hj] at *
  rw [wanted_put oj a (some d) v h1']
  split
  · rename_i hw
    simp only [hw, if_true] at h
    rcases h with h | ⟨hasks, hlets⟩
    case inr => exact .inr ⟨by unfold Oper.asks at *; rw [execOp_put oj hsj a (some d) v h1']; exact hasks, hlets⟩
    refine .inl ?_
    unfold Oper.wp at *
    rw [execOp_put oj hsj a (some d) v h1']
    generalize (execOp a.eval oj).run P w = r at *
    cases r with
    | ok n w' =>
      cases n <;> simp only [Oper.upon] at h ⊢
      case value u => exact ⟨_, Act.put_comm a v u h2', h⟩
      case skip => exact ⟨_, Act.put_comm a v undef h2', h⟩
      case defer e =>
        refine ⟨_, ?_, h⟩
        rw [Act.put_defers, Act.put_comm _ v undef h2']
      case enter f args =>
        refine Calls.mono h fun e w'' he => ?_
        cases e with
        | returned u => exact ⟨_, Act.put_comm a v u h2', he⟩
        | panicked c => exact (hQ _ _ _ he).elim
        | outgrown => exact he
      case row row args => exact Rows.mono h fun u w'' he => ⟨_, Act.put_comm a v u h2', he⟩
    | halt x w' =>
      cases x <;> simp only [Oper.upon] at h ⊢
      case panic u => exact (hQ _ _ _ h).elim
  · rename_i hw
    simp only [hw] at h
    exact ⟨_, Act.put_comm a v undef h2', h⟩

/-- The head of a region in whatever order, others stepping between; behind it 'L'. -/
def wpAnyE (P : Program) (md : Region.Mode) (ops : Array Oper) (Q : Exit → Act → World → Prop) (R : World → World → Prop) (anyf : Nat → Bool) (n : Nat) (L : Array Bool → Act → World → Prop) :
    Nat → Array Bool → Act → World → Prop
  | 0, listed, a, w => L listed a w
  | f + 1, listed, a, w =>
    Region.ready md ops listed ≠ [] ∧ ∀ w', R w w' → ∀ i ∈ Region.ready md ops listed, i < n ∧
      wpOp P ops (QX Q) i (fun a' w'' => (anyf i = false → Ext w' w'') ∧ wpAnyE P md ops Q R anyf n L f (listed.setIfInBounds i true) a' w'') a w'

variable {R Cl : World → World → Prop} {anyf : Nat → Bool} {n : Nat} {L : Array Bool → Act → World → Prop}

theorem wpAnyE_closed (hRt : ∀ a b c, R a b → R b c → R a c) (hL : ∀ listed a w w', L listed a w → R w w' → L listed a w') :
    ∀ (f : Nat) (listed : Array Bool) (a : Act) (w w' : World), wpAnyE P md ops Q R anyf n L f listed a w → R w w' → wpAnyE P md ops Q R anyf n L f listed a w'
  | 0, _, _, _, _, h, hr => hL _ _ _ _ h hr
  | _ + 1, _, _, _, _, h, hr => ⟨h.1, fun w2 h2 => h.2 w2 (hRt _ _ _ hr h2)⟩

theorem YieldsIn.wpOp' {i : Nat} {o : Oper} {v : Value} {a : Act} {w : World} {C : World → Prop} (hi : ops[i]? = some o) (hC : C w) (hy : YieldsIn P ops C o v a)
    {K : Act → World → Prop} (h : ∀ w', C w' → K (a.put o.dst v) w') : wpOp P ops Q i K a w :=
  wpOp_of_qOp (K := fun a' => a' = a.put o.dst v) hC (fun a' w' hw' ha => by rw [ha]; exact h w' hw') (hy.qOp hi rfl)

theorem wpAnyE_first {i : Nat} {oi : Oper} {v : Value} {s : Bool} (hi : ops[i]? = some oi) (hsel : ∀ (j : Nat) (o : Oper) cs b, ops[j]? = some o → o.op ≠ .select cs b)
    (hw : ∀ listed, HeadInv md ops n listed → ∀ i, i < n → i ∈ Region.ready md ops listed → ∀ j ∈ Region.ready md ops listed, j < n) (hin : i < n)
    (hRt : ∀ a b c, R a b → R b c → R a c) (hRE : ∀ a b, R a b → Ext a b)
    (hCr : ∀ w, Cl w w) (hCR : ∀ w x, Cl w x → R w x)
    (hL : ∀ listed a w w', L listed a w → R w w' → L listed a w')
    (hdone : ∀ listed a w, L listed a w → ∀ j ∈ Region.ready md ops listed, n ≤ j)
    (hany : s = false → anyf i = false) :
    ∀ (f : Nat) (listed : Array Bool) (a : Act) (w : World), HeadInv md ops n listed → (s = false → ∀ j, anyf j = true → listed.getD j true = true ∨ Region.waitsFor md ops j i = true) →
      (∀ j oj, ops[j]? = some oj → j ≠ i → listed.getD j true = false → (∀ e ∈ oj.after, Region.binds md e = true → e.on ≠ i) → oi.apart ops oj = true) →
      i ∈ Region.ready md ops listed →
      (∀ w', (s = true ∨ Ext w w') → ∃ v', YieldsIn P ops (Cl w') oi v' a ∧ a.put oi.dst v' = a.put oi.dst v) →
      wpAnyE P md ops Q R anyf n L f (listed.setIfInBounds i true) (a.put oi.dst v) w → wpAnyE P md ops Q R anyf n L (f + 1) listed a w := by
  have waits : ∀ (listed : Array Bool), HeadInv md ops n listed → i ∈ Region.ready md ops listed → ∀ j ∈ Region.ready md ops listed, j < n := fun listed inv hr => hw listed inv i hin hr
  have self : ∀ (f : Nat) (listed : Array Bool) (a : Act) (w w' : World), R w w' → (∀ w', (s = true ∨ Ext w w') → ∃ v', YieldsIn P ops (Cl w') oi v' a ∧ a.put oi.dst v' = a.put oi.dst v) →
      wpAnyE P md ops Q R anyf n L f (listed.setIfInBounds i true) (a.put oi.dst v) w →
      wpOp P ops (QX Q) i (fun a' w'' => (anyf i = false → Ext w' w'') ∧ wpAnyE P md ops Q R anyf n L f (listed.setIfInBounds i true) a' w'') a w' := fun f listed a w w' hr hy H => by
    obtain ⟨v', h1, h2⟩ := hy w' (.inr (hRE _ _ hr))
    exact YieldsIn.wpOp' hi (hCr w') h1 (fun w2 hw2 => ⟨fun _ => hRE _ _ (hCR _ _ hw2), by rw [h2]; exact wpAnyE_closed (R := R) hRt hL f _ _ w w2 H (hRt _ _ _ hr (hCR _ _ hw2))⟩)
  intro f
  induction f with
  | zero =>
    intro listed a w inv _ _ hr hy H
    refine ⟨fun h => (by rw [h] at hr; cases hr), fun w' hw' j hj => ⟨waits _ inv hr j hj, ?_⟩⟩
    by_cases hji : j = i
    · subst hji; exact self 0 listed a w w' hw' hy H
    · have h1 := hdone _ _ _ H j (ready_mono hj hji)
      have := waits _ inv hr j hj
      omega
  | succ f ih =>
    intro listed a w inv hany2 hfree hr hy H
    have hun := (mem_ready.1 hr).1
    refine ⟨fun h => (by rw [h] at hr; cases hr), fun w' hw' j hj => ⟨waits _ inv hr j hj, ?_⟩⟩
    by_cases hji : j = i
    · subst hji; exact self (f + 1) listed a w w' hw' hy H
    · have hjn := waits _ inv hr j hj
      have h1 := (H.2 w' hw' j (ready_mono hj hji)).2
      obtain ⟨hjun, oj, hoj, hall⟩ := mem_ready.1 hj
      have hnot : ∀ e ∈ oj.after, Region.binds md e = true → e.on ≠ i := fun e he hb heq => by
        have h1 := hall e he hb
        rw [heq, getD_both hun] at h1
        cases h1
      have hap := hfree j oj hoj hji hjun hnot
      obtain ⟨p1, p2, p3⟩ := Oper.apart_spec hap
      have hanyj : s = false → anyf j = false := fun hs0 => by
        cases hb : anyf j with
        | false => rfl
        | true =>
          have hwt : Region.waitsFor md ops j i = true := by
            rcases hany2 hs0 j hb with h9 | h9
            · rw [hjun] at h9; cases h9
            · exact h9
          obtain ⟨o', ho', e, he, hb', hon⟩ := Region.waitsFor_spec hwt
          have : o' = oj := Option.some.inj (ho'.symm.trans hoj)
          subst this
          exact absurd hon (hnot e he hb')
      have h2 := wpOp_past (Y := fun a' => ∀ w3, (s = true ∨ Ext w w3) → ∃ v', YieldsIn P ops (Cl w3) oi v' a' ∧ a'.put oi.dst v' = a'.put oi.dst v) hoj hap (fun cs b => hsel j oj cs b hoj)
        (fun c a w h => h) hy
        (fun a u hY w3 h3 => by
          obtain ⟨v', y1, y2⟩ := hY w3 h3
          refine ⟨v', y1.of_same (execOp_put oi (fun cs b => hsel i oi cs b hi) a oj.dst u p3) (wanted_put oi a oj.dst u p3), ?_⟩
          rw [← Act.put_comm a v' u p2, ← Act.put_comm a v u p2, y2])
        (fun a d hY w3 h3 => by
          obtain ⟨v', y1, y2⟩ := hY w3 h3
          exact ⟨v', y1.of_same rfl rfl, by rw [← Act.put_defers, ← Act.put_defers, y2]⟩) h1
      have hfree' : ∀ k ok, ops[k]? = some ok → k ≠ i → (listed.setIfInBounds j true).getD k true = false →
          (∀ e ∈ ok.after, Region.binds md e = true → e.on ≠ i) → oi.apart ops ok = true := fun k ok hk hki hun hno => by
        refine hfree k ok hk hki ?_ hno
        by_cases hjk : j = k
        · subst hjk; exact hjun
        · rw [getD_set_ne true hjk] at hun; exact hun
      have hany2' : s = false → ∀ k, anyf k = true → (listed.setIfInBounds j true).getD k true = true ∨ Region.waitsFor md ops k i = true := fun hs0 k hk => by
        rcases hany2 hs0 k hk with h9 | h9
        · left
          by_cases hjk : j = k
          · subst hjk; rw [hjun] at h9; cases h9
          · rw [getD_set_ne true hjk]; exact h9
        · exact .inr h9
      refine wpOp_mono (fun a' w'' h3 => ⟨h3.2.1, ih (listed.setIfInBounds j true) a' w'' (inv.set hj hjn) hany2' hfree' (ready_mono hr (Ne.symm hji)) (fun w3 h4 => h3.1 w3 ?_) ?_⟩) h2
      · rw [Array.setIfInBounds_comm _ _ hji]
        exact h3.2.2
      · rcases h4 with h4 | h4
        · exact .inl h4
        · cases hs0 : s with
          | true => exact .inl rfl
          | false => exact .inr (Ext.trans (Ext.trans (hRE _ _ hw') (h3.2.1 (hanyj hs0))) h4)

/-! ### Quiet operations, one behind the other -/
theorem put_other (a : Act) (dst : Option Tmp) (v : Value) (d : Tmp) (h : dst ≠ some d) : (a.put dst v).tmps[d]? = a.tmps[d]? := by
  cases dst with
  | none => rfl
  | some e =>
    have hne : e ≠ d := fun he => h (by rw [he])
    simp [Act.put, Array.getElem?_setIfInBounds_ne hne]

theorem quiet_frame {C : World → Prop} {A : Act} {d : Tmp} : ∀ (ls : List Oper) (a : Act), wpQuiet P ops C (fun a' => a' = A) ls a → (∀ o ∈ ls, o.dst ≠ some d) → A.tmps[d]? = a.tmps[d]?
  | [], a, h, _ => by rw [show a = A from h]
  | o :: ls, a, h, hd => by
    have hd' : ∀ o ∈ ls, o.dst ≠ some d := fun x hx => hd x (List.mem_cons_of_mem _ hx)
    have h0 := hd o List.mem_cons_self
    unfold wpQuiet at h
    split at h
    · obtain ⟨v, _, hv⟩ := h
      rw [quiet_frame ls _ hv hd', put_other _ _ _ _ h0]
    · rw [quiet_frame ls _ h hd', put_other _ _ _ _ h0]

theorem put_same (a : Act) (d : Tmp) (v u : Value) (h : ∀ x, (a.put (some d) v).tmps[d]? = some x → x = u) : a.put (some d) v = a.put (some d) u := by
  by_cases hlt : d < a.tmps.size
  · rw [h v (by simp [Act.put, hlt])]
  · simp only [Act.put, Array.setIfInBounds, hlt, dite_false]

def setAll (is : List Nat) (listed : Array Bool) : Array Bool := is.foldl (fun x i => x.setIfInBounds i true) listed

def dstAt (ops : Array Oper) (i : Nat) : Option Tmp := (ops[i]?).bind (·.dst)

def lexQ (md : Region.Mode) (ops : Array Oper) (n : Nat) (anyL : List Nat) (s : Bool) : List Nat → Array Bool → Bool
  | [], _ => true
  | i :: is, listed => decide (i < n) && (Region.ready md ops listed).contains i && Region.free md ops listed i && (dstAt ops i).isSome && is.all (fun k => dstAt ops k != dstAt ops i) &&
      (s || (!anyL.contains i && anyL.all fun j => listed.getD j true || Region.waitsFor md ops j i)) && lexQ md ops n anyL s is (listed.setIfInBounds i true)

def lexW (md : Region.Mode) (ops : Array Oper) (n : Nat) (anyL : List Nat) : List Seg → Array Bool → Bool
  | [], listed => Region.seqB md ops (ops.size - n) n listed
  | .q s is :: r, listed => lexQ md ops n anyL s is listed && lexW md ops n anyL r (setAll is listed)
  | .e any j :: r, listed => decide (j < n) && decide (Region.ready md ops listed = [j]) && (any == anyL.contains j) && lexW md ops n anyL r (listed.setIfInBounds j true)

def count : List Seg → Nat
  | [] => 0
  | .q _ is :: r => count r + is.length
  | .e _ _ :: r => count r + 1
end

section
variable {P : Program} {l : List Oper} {Q : Exit → Act → World → Prop} {md : Region.Mode} {R Cl : World → World → Prop} {n : Nat} {L : Array Bool → Act → World → Prop} {anyL : List Nat}

theorem at_ops {i : Nat} (h : i < l.toArray.size) : l.toArray[i]? = some (l.getD i default) := by
  have h' : i < l.length := by simpa using h
  simp [h']

theorem batch {s : Bool} (hsel : Region.noSelect l.toArray = true) (hw : ∀ listed, HeadInv md l.toArray n listed → ∀ i, i < n → i ∈ Region.ready md l.toArray listed → ∀ j ∈ Region.ready md l.toArray listed, j < n) (hn : n ≤ l.toArray.size)
    (hRt : ∀ a b c, R a b → R b c → R a c) (hRE : ∀ a b, R a b → Ext a b)
    (hCr : ∀ w, Cl w w) (hCR : ∀ w x, Cl w x → R w x)
    (hL : ∀ listed a w w', L listed a w → R w w' → L listed a w')
    (hdone : ∀ listed a w, L listed a w → ∀ j ∈ Region.ready md l.toArray listed, n ≤ j) {A : Act} {w : World} {f : Nat} :
    ∀ (is : List Nat) (listed : Array Bool) (a : Act), HeadInv md l.toArray n listed → lexQ md l.toArray n anyL s is listed = true →
      (∀ w', (s = true ∨ Ext w w') → wpQuiet P l.toArray (Cl w') (fun a' => a' = A) (pick l is) a) →
      (HeadInv md l.toArray n (setAll is listed) → wpAnyE P md l.toArray Q R (fun j => anyL.contains j) n L f (setAll is listed) A w) →
      wpAnyE P md l.toArray Q R (fun j => anyL.contains j) n L (f + is.length) listed a w
  | [], listed, a, inv, _, h, H => by
    have : a = A := h w (.inr (Ext.refl _))
    subst this
    exact H inv
  | i :: is, listed, a, inv, hB, h, H => by
    simp only [lexQ, Bool.and_eq_true, decide_eq_true_eq] at hB
    obtain ⟨⟨⟨⟨⟨⟨hin, hr⟩, hf⟩, hd⟩, hds⟩, hany⟩, hB'⟩ := hB
    have hi := at_ops (l := l) (i := i) (by omega)
    have hr' : i ∈ Region.ready md l.toArray listed := by simpa using hr
    obtain ⟨d, hd⟩ := Option.isSome_iff_exists.1 hd
    have hdst : (l.getD i default).dst = some d := by simpa [dstAt, hi] using hd
    have hrest : ∀ o ∈ pick l is, o.dst ≠ some d := fun o ho => by
      unfold pick at ho
      obtain ⟨k, hk, rfl⟩ := List.mem_map.1 ho
      have h1 := List.all_eq_true.1 hds k hk
      intro h2
      have : dstAt l.toArray k = some d ∨ l.length ≤ k := by
        by_cases hkl : k < l.length
        · left; unfold dstAt; rw [at_ops (by simpa using hkl)]; exact h2
        · right; omega
      rcases this with h3 | h3
      · rw [h3, hd] at h1; simp at h1
      · have h4 : (l.getD k default : Oper) = default := by simp [h3]
        rw [h4] at h2
        exact absurd h2 (by intro h5; cases h5)
    have key : ∀ w', (s = true ∨ Ext w w') → ∃ v', YieldsIn P l.toArray (Cl w') (l.getD i default) v' a ∧ a.put (l.getD i default).dst v' = a.put (l.getD i default).dst (A.tmps.getD d undef) ∧
        wpQuiet P l.toArray (Cl w') (fun a' => a' = A) (pick l is) (a.put (l.getD i default).dst v') := fun w' hw' => by
      have h1 : qOp P l.toArray (Cl w') i (wpQuiet P l.toArray (Cl w') (fun a' => a' = A) (pick l is)) a := by
        unfold qOp; simp only [hi]; exact h w' hw'
      obtain ⟨v', y1, y2⟩ := yieldsIn_of_qOp hi h1
      refine ⟨v', y1, ?_, y2⟩
      rw [hdst] at y2 ⊢
      refine put_same _ _ _ _ fun x hx => ?_
      have h3 := quiet_frame _ _ y2 hrest
      rw [hx] at h3
      simp [h3]
    have hnext : ∀ w', (s = true ∨ Ext w w') → wpQuiet P l.toArray (Cl w') (fun a' => a' = A) (pick l is) (a.put (l.getD i default).dst (A.tmps.getD d undef)) := fun w' hw' => by
      obtain ⟨v', _, y2, y3⟩ := key w' hw'
      rw [← y2]; exact y3
    have IH := batch hsel hw hn hRt hRE hCr hCR hL hdone is (listed.setIfInBounds i true) _ (inv.set hr' hin) hB' hnext H
    refine wpAnyE_first (s := s) hi (Region.noSelect_spec hsel) hw hin hRt hRE hCr hCR hL hdone (fun hs0 => ?_) (f + is.length) listed a w inv (fun hs0 j hj => ?_) (Region.free_spec hi hf) hr' (fun w' hw' => ?_) IH
    · subst hs0
      simp only [Bool.false_or, Bool.and_eq_true, Bool.not_eq_true', List.all_eq_true] at hany
      exact hany.1
    · subst hs0
      simp only [Bool.false_or, Bool.and_eq_true, Bool.not_eq_true', List.all_eq_true, Bool.or_eq_true] at hany
      exact hany.2 j (by simpa using hj)
    · obtain ⟨v', y1, y2, _⟩ := key w' hw'
      exact ⟨v', y1, y2⟩

theorem letsOut_eff {any : Bool} {w : World} {K : Act → World → Prop} (h : LetsOut (effQ Q any w K)) : LetsOut (QX Q) := by
  obtain ⟨a, w, h⟩ := h
  exact ⟨a, w, h⟩

theorem canon {F : Act → World → Prop} (hsel : Region.noSelect l.toArray = true) (hw : ∀ listed, HeadInv md l.toArray n listed → ∀ i, i < n → i ∈ Region.ready md l.toArray listed → ∀ j ∈ Region.ready md l.toArray listed, j < n) (hn : n ≤ l.toArray.size)
    (hRt : ∀ a b c, R a b → R b c → R a c) (hRE : ∀ a b, R a b → Ext a b)
    (hCr : ∀ w, Cl w w) (hCR : ∀ w x, Cl w x → R w x)
    (hF : ∀ a w w', F a w → R w w' → F a w') :
    ∀ (segs : List Seg) (listed : Array Bool) (a : Act) (w : World), HeadInv md l.toArray n listed → lexW md l.toArray n anyL segs listed = true → W P l Q R Cl F segs a w →
      wpAnyE P md l.toArray Q R (fun j => anyL.contains j) n (fun listed a w => Region.seqB md l.toArray (l.toArray.size - n) n listed = true ∧ F a w) (count segs) listed a w
  | [], listed, a, w, inv, hB, h => ⟨hB, h⟩
  | .q s is :: r, listed, a, w, inv, hB, h => by
    simp only [lexW, Bool.and_eq_true] at hB
    obtain ⟨A, h1, h2⟩ := h
    exact batch hsel hw hn hRt hRE hCr hCR (fun _ _ _ _ hL hr => ⟨hL.1, hF _ _ _ hL.2 hr⟩) (fun _ _ _ hL => seqB_ready hL.1) is listed a inv hB.1 h1 (fun inv' => canon hsel hw hn hRt hRE hCr hCR hF r _ A w inv' hB.2 h2)
  | .e any j :: r, listed, a, w, inv, hB, h => by
    simp only [lexW, Bool.and_eq_true, decide_eq_true_eq, beq_iff_eq] at hB
    obtain ⟨⟨⟨hj, hr⟩, hany⟩, hB'⟩ := hB
    refine ⟨by rw [hr]; simp, fun w' hw' i hi => ?_⟩
    rw [hr] at hi
    have hij : i = j := by simpa using hi
    subst hij
    refine ⟨hj, ?_⟩
    have ho := at_ops (l := l) (i := i) (by omega)
    have h1 := h w' hw'
    have h2 : wpOp P l.toArray (effQ Q any w' (W P l Q R Cl F r)) i (fun a' w'' => effQ Q any w' (W P l Q R Cl F r) .normal a' w'') a w' := by
      unfold wpOp
      simp only [ho]
      unfold pick at h1
      simp only [List.map_cons, List.map_nil] at h1
      unfold wpList at h1
      exact h1
    refine wpOp_monoQ (Q := effQ Q any w' (W P l Q R Cl F r)) (fun a' w'' h3 => ⟨fun hb => h3.1 (hany.trans hb), canon hsel hw hn hRt hRE hCr hCR hF r _ a' w'' (inv.set (by rw [hr]; simp) hj) hB' h3.2⟩) (fun _ _ _ h => h) letsOut_eff h2

/-- Who waits: the tail for the head, or there is no tail. -/
def waitB (md : Region.Mode) (ops : Array Oper) (n : Nat) : Bool := decide (n = ops.size) || (decide (n < ops.size) && Region.sinkB md ops n && Region.chainB md ops n)

theorem waitB_spec {ops : Array Oper} (h : waitB md ops n = true) : n ≤ ops.size ∧ ∀ listed, HeadInv md ops n listed → ∀ i, i < n → i ∈ Region.ready md ops listed → ∀ j ∈ Region.ready md ops listed, j < n := by
  unfold waitB at h
  simp only [Bool.or_eq_true, Bool.and_eq_true, decide_eq_true_eq] at h
  rcases h with rfl | ⟨⟨h1, h2⟩, h3⟩
  · refine ⟨Nat.le_refl _, fun listed _ i _ _ j hj => ?_⟩
    obtain ⟨_, o, ho, _⟩ := mem_ready.1 hj
    exact (Array.getElem?_eq_some_iff.1 ho).1
  · refine ⟨by omega, fun listed inv i hi hr j hj => ?_⟩
    rcases Nat.lt_or_ge j n with h | h
    · exact h
    · exact absurd hj (tail_waits h2 h3 h1 inv _ i rfl hi (mem_ready.1 hr).1 j h)

theorem qx_imp {Q : Exit → Act → World → Prop} : LetsOut (QX Q) → LetsOut Q := fun ⟨a, w, h⟩ => ⟨a, w, h⟩

theorem wpAny_of_E {ops : Array Oper} {anyf : Nat → Bool} {g : Nat} (hRr : ∀ a, R a a) (hL : ∀ listed a w, L listed a w → wpAny P md ops Q g listed a w) :
    ∀ (f : Nat) (listed : Array Bool) (a : Act) (w : World), wpAnyE P md ops Q R anyf n L f listed a w → wpAny P md ops Q (f + g) listed a w
  | 0, listed, a, w, h => by rw [Nat.zero_add]; exact hL _ _ _ h
  | f + 1, listed, a, w, h => by
    rw [show f + 1 + g = (f + g) + 1 by omega]
    refine ⟨fun h0 => absurd h0 h.1, fun i hi => ?_⟩
    exact wpOp_monoQ (fun a' w' h3 => wpAny_of_E hRr hL f _ _ _ h3.2) (fun _ _ _ h => h.elim) qx_imp (h.2 w (hRr w) i hi).2

def okB (ops : Array Oper) (n : Nat) (anyL : List Nat) (segs : List Seg) : Bool :=
  Region.noSelect ops && waitB .any ops n && lexW .any ops n anyL segs (Array.replicate ops.size false) && decide (count segs + (ops.size - n) = ops.size)

theorem inv0 {ops : Array Oper} : HeadInv md ops n (Array.replicate ops.size false) :=
  ⟨by simp, fun j oj _ hl => (by rw [getD_replicate_false] at hl; cases hl), fun t _ ht => getD_in (by simpa using ht) (getD_replicate_false _ _)⟩

/-- A REGION THAT DRAWS, WALKED ONCE. n: how many operations stand ahead of the tail, which goes in the text's order. -/
theorem region {id : Nat} {a : Act} {w : World} (n : Nat) (anyL : List Nat) (segs : List Seg) (hm : P.follows .mixedOrders = true) (hB : okB l.toArray n anyL segs = true)
    (h : W P l Q (fun x y => x = y) ClE (wpList P l.toArray Q (l.drop n)) segs a w.drew) : (Code.region id l.toArray true).wp P Q a w := by
  simp only [okB, Bool.and_eq_true, decide_eq_true_eq] at hB
  obtain ⟨⟨⟨hsel, hwt⟩, hlex⟩, hcount⟩ := hB
  obtain ⟨hn, hw⟩ := waitB_spec hwt
  have h1 := canon (R := fun x y => x = y) hsel hw hn (fun _ _ _ h k => h.trans k) (fun a b h => h ▸ Ext.refl a) (Cl := ClE) (fun w => rfl) (fun w x h => h.symm) (fun a w w' h hr => hr ▸ h) segs _ a w.drew inv0 hlex h
  refine wp_region_any hm ?_
  have h2 := wpAny_of_E (g := l.toArray.size - n) (fun _ => rfl) (fun listed a w hL => by
    have := wpAny_of_seq (md := .any) (Q' := Q) (l.drop n) n listed a w (fun j => by simp [List.getElem?_drop]) (by have : (l.drop n).length = l.toArray.size - n := by simp
                                                                                                                    rw [this]; exact hL.1) hL.2
    rwa [show (l.drop n).length = l.toArray.size - n by simp] at this) _ _ _ _ h1
  rw [hcount] at h2
  exact h2

/-- .. where quiet operations may make new blocks, and others may step between. -/
theorem regionX {id : Nat} {a : Act} {w : World} (n : Nat) (anyL : List Nat) (segs : List Seg) (hm : P.follows .mixedOrders = true) (hB : okB l.toArray n anyL segs = true)
    (h : W P l Q Ext ClX (fun a' w' => ∀ w2, Ext w' w2 → wpList P l.toArray Q (l.drop n) a' w2) segs a w.drew) : (Code.region id l.toArray true).wp P Q a w := by
  simp only [okB, Bool.and_eq_true, decide_eq_true_eq] at hB
  obtain ⟨⟨⟨hsel, hwt⟩, hlex⟩, hcount⟩ := hB
  obtain ⟨hn, hw⟩ := waitB_spec hwt
  have h1 := canon (R := Ext) hsel hw hn (fun _ _ _ h k => Ext.trans h k) (fun a b h => h) (Cl := ClX) (fun w => ClX.mk (Ext.refl w)) (fun w x h => h.ext) (fun a w w' h hr w2 h2 => h w2 (Ext.trans hr h2)) segs _ a w.drew inv0 hlex h
  refine wp_region_any hm ?_
  have hlen : (l.drop n).length = l.toArray.size - n := by simp
  have h2 := wpAny_of_E (g := l.toArray.size - n) (fun a => Ext.refl a) (fun listed a w hL => by
    have := wpAny_of_seq (md := .any) (Q' := Q) (l.drop n) n listed a w (fun j => by simp [List.getElem?_drop]) (by rw [hlen]; exact hL.1) (hL.2 w (Ext.refl w))
    rwa [hlen] at this) _ _ _ _ h1
  rw [hcount] at h2
  exact h2

/-! ### New variables, whose addresses nobody in the head asks for -/
/-- Number, type, zero value, temporary. -/
abbrev Float := Nat × TypeId × Value × Tmp

def ptr (b : Nat) : Value := .pointer (some ⟨b, 0, none⟩)

/-- Whatever new blocks they are. -/
def Fl (K : Act → World → Prop) (base : Nat) : List Float → List Nat → Act → World → Prop
  | [], _, a, w => K a w
  | x :: r, us, a, w => ∀ b, base ≤ b → b ∉ us → w.heap[b]? = some (.cells x.2.2.1.cells x.2.1) → Fl K base r (b :: us) (a.put (some x.2.2.2) (ptr b)) w

def putD (D : List (Float × Nat)) (a : Act) : Act := D.foldr (fun x a => a.put (some x.1.2.2.2) (ptr x.2)) a

theorem putD_cons (x : Float × Nat) (D : List (Float × Nat)) (a : Act) : putD (x :: D) a = (putD D a).put (some x.1.2.2.2) (ptr x.2) := rfl

theorem putD_put (D : List (Float × Nat)) (a : Act) (d : Tmp) (v : Value) (h : ∀ y ∈ D, y.1.2.2.2 ≠ d) : putD D (a.put (some d) v) = (putD D a).put (some d) v := by
  induction D with
  | nil => rfl
  | cons x D ih =>
    have h0 := h x List.mem_cons_self
    rw [putD_cons, putD_cons, ih (fun y hy => h y (List.mem_cons_of_mem _ hy)), Act.put_comm _ _ _ (fun e he => by cases he; exact fun hh => h0 (Option.some.inj hh))]

theorem putD_append (D E : List (Float × Nat)) (a : Act) : putD (D ++ E) a = putD D (putD E a) := by
  simp [putD, List.foldr_append]

theorem Fl_use {K : Act → World → Prop} {base : Nat} {w : World} : ∀ (fl : List Float) (us : List Nat) (D : List (Float × Nat)) (a : Act), (fl.map (·.2.2.2)).Nodup → (D.map (·.1)).Perm fl → (D.map (·.2)).Nodup →
    (∀ y ∈ D, base ≤ y.2 ∧ w.heap[y.2]? = some (.cells y.1.2.2.1.cells y.1.2.1) ∧ y.2 ∉ us) → Fl K base fl us a w → K (putD D a) w
  | [], us, D, a, _, hp, _, _, h => by
    have : D = [] := by simpa using hp.eq_nil
    subst this
    exact h
  | x :: r, us, D, a, hnd, hp, hb, hf, h => by
    have hx : x ∈ D.map (·.1) := hp.mem_iff.2 List.mem_cons_self
    obtain ⟨⟨x', b⟩, hy, rfl⟩ := List.mem_map.1 hx
    obtain ⟨D1, D2, rfl⟩ := List.append_of_mem hy
    obtain ⟨hf1, hf2, hf3⟩ := hf _ hy
    simp only at *
    have h1 := h b hf1 hf3 hf2
    have hp' : ((D1 ++ D2).map (·.1)).Perm r := by
      have : ((D1 ++ (x', b) :: D2).map (·.1)).Perm (x' :: (D1 ++ D2).map (·.1)) := by
        simp only [List.map_append, List.map_cons]; exact List.perm_middle
      exact (List.perm_cons x').1 (this.symm.trans hp)
    have hbb : (D1.map (·.2) ++ b :: D2.map (·.2)).Nodup := by simpa using hb
    have hb2 := List.perm_middle.nodup_iff.1 hbb
    have hnd' : (r.map (·.2.2.2)).Nodup := by simp only [List.map_cons, List.nodup_cons] at hnd; exact hnd.2
    have h2 := Fl_use r (b :: us) (D1 ++ D2) (a.put (some x'.2.2.2) (ptr b)) hnd' hp' (by simpa using (List.nodup_cons.1 hb2).2) (fun y hy => by
      have hy' : y ∈ D1 ++ (x', b) :: D2 := by
        rcases List.mem_append.1 hy with h | h
        · exact List.mem_append_left _ h
        · exact List.mem_append_right _ (List.mem_cons_of_mem _ h)
      obtain ⟨g1, g2, g3⟩ := hf y hy'
      refine ⟨g1, g2, fun hmem => ?_⟩
      rcases List.mem_cons.1 hmem with h | h
      · have h3 := (List.nodup_cons.1 hb2).1
        refine h3 ?_
        rw [← h, ← List.map_append]
        exact List.mem_map.2 ⟨y, hy, rfl⟩
      · exact g3 h) h1
    have hne : ∀ y ∈ D2, y.1.2.2.2 ≠ x'.2.2.2 := fun y hy he => by
      have h3 : y.1 ∈ r := hp'.mem_iff.1 (List.mem_map.2 ⟨y, List.mem_append_right _ hy, rfl⟩)
      simp only [List.map_cons, List.nodup_cons] at hnd
      exact hnd.1 (by rw [← he]; exact List.mem_map.2 ⟨y.1, h3, rfl⟩)
    rw [putD_append] at h2 ⊢
    rw [putD_put _ _ _ _ hne] at h2
    exact h2

theorem set_comm (x : Array Bool) (i j : Nat) : (x.setIfInBounds i true).setIfInBounds j true = (x.setIfInBounds j true).setIfInBounds i true := by
  by_cases h : i = j
  · rw [h]
  · exact Array.setIfInBounds_comm _ _ h

theorem setAll_set (is : List Nat) (x : Array Bool) (i : Nat) : setAll is (x.setIfInBounds i true) = (setAll is x).setIfInBounds i true := by
  induction is generalizing x with
  | nil => rfl
  | cons k is ih =>
    show setAll is ((x.setIfInBounds i true).setIfInBounds k true) = (setAll is (x.setIfInBounds k true)).setIfInBounds i true
    rw [set_comm, ih]

theorem setAll_middle (xs ys : List Nat) (x : Array Bool) (i : Nat) : setAll (xs ++ i :: ys) x = setAll (xs ++ ys) (x.setIfInBounds i true) := by
  unfold setAll
  rw [List.foldl_append, List.foldl_append, List.foldl_cons]
  have := setAll_set xs x i
  unfold setAll at this
  rw [this]

theorem getD_setAll_le (is : List Nat) (x : Array Bool) (j : Nat) (h : x.getD j false = true) : (setAll is x).getD j false = true := by
  induction is generalizing x with
  | nil => exact h
  | cons k is ih => exact ih _ (getD_set_true h)

theorem getD_setAll_ne (is : List Nat) (x : Array Bool) (j : Nat) (d : Bool) (h : j ∉ is) : (setAll is x).getD j d = x.getD j d := by
  induction is generalizing x with
  | nil => rfl
  | cons k is ih =>
    have hk : k ≠ j := fun e => h (by rw [e]; exact List.mem_cons_self)
    exact (ih _ (fun hh => h (List.mem_cons_of_mem _ hh))).trans (getD_set_ne d hk)

/-- What is asked of the new variables. -/
def FloatOk (P : Program) (ops : Array Oper) (n : Nat) (x : Float) : Prop :=
  x.1 < n ∧ ∃ o t, ops[x.1]? = some o ∧ o.op = .alloc x.2.1 ∧ o.guard = none ∧ o.dst = some x.2.2.2 ∧ o.after = #[] ∧ P.info? x.2.1 = some t ∧ t.zero = some x.2.2.1

def blindB (ops : Array Oper) (n : Nat) (fl : List Float) : Bool :=
  (List.range n).all fun i => fl.any (fun x => x.1 == i) || match ops[i]? with
    | some o => fl.all fun x => !(o.looksAt ops).contains x.2.2.2 && o.dst != some x.2.2.2
    | none => true

theorem run_alloc {o : Oper} {t : TypeInfo} {e : TypeId} {z : Value} (ρ : Operand → Value) (w : World) (ho : o.op = .alloc e) (ht : P.info? e = some t) (hz : t.zero = some z) :
    (execOp ρ o).run P w = .ok (.value (ptr w.heap.size)) (w.alloc (.cells z.cells e)) := by
  have h1 : (zeroValue e).run P w = .ok z w := by simp [zeroValue, typeInfo, program, ht, hz, Sem.run, bind, Sem.bind, pure]
  unfold execOp
  rw [ho]
  simp [Instr.alloc, go_sem, h1, ptr]

theorem wpOp_moreD {j : Nat} {oj : Oper} {Q : Exit → Act → World → Prop} {ops : Array Oper} (hj : ops[j]? = some oj) (hsj : ∀ cs b, oj.op ≠ .select cs b) (hQ : ∀ c a w, Q (.panic c) a w → False) {K : Act → World → Prop} {w : World} :
    ∀ (D : List (Float × Nat)) (a : Act), (∀ y ∈ D, y.1.2.2.2 ∉ oj.looksAt ops ∧ oj.dst ≠ some y.1.2.2.2) → wpOp P ops Q j K a w →
      wpOp P ops Q j (fun a' w' => ∃ b, a' = putD D b ∧ K b w') (putD D a) w
  | [], a, _, h => wpOp_mono (fun a' w' hk => ⟨a', rfl, hk⟩) h
  | y :: D, a, hd, h => by
    have h0 := hd y List.mem_cons_self
    have h1 := wpOp_moreD hj hsj hQ D a (fun y hy => hd y (List.mem_cons_of_mem _ hy)) h
    refine wpOp_mono (fun a' w' hk => ?_) (wpOp_more (d := y.1.2.2.2) (v := ptr y.2) hj h0.1 h0.2 hsj hQ h1)
    obtain ⟨b, rfl, c, rfl, hc⟩ := hk
    exact ⟨c, rfl, hc⟩

theorem ready_more {ops : Array Oper} {listed : Array Bool} {is : List Nat} {i : Nat} (h : i ∈ Region.ready md ops listed) (hi : i ∉ is) : i ∈ Region.ready md ops (setAll is listed) := by
  rw [mem_ready] at *
  obtain ⟨h0, o, ho, hall⟩ := h
  exact ⟨by rw [getD_setAll_ne _ _ _ _ hi]; exact h0, o, ho, fun e he hb => getD_setAll_le _ _ _ (hall e he hb)⟩

theorem sim {ops : Array Oper} {base : Nat} {fl : List Float} {g : Nat} (hsel : Region.noSelect ops = true)
    (hw : ∀ listed, HeadInv md ops n listed → ∀ i, i < n → i ∈ Region.ready md ops listed → ∀ j ∈ Region.ready md ops listed, j < n)
    (hRr : ∀ a, R a a) (hRt : ∀ a b c, R a b → R b c → R a c) (hRa : ∀ w o, R w (World.alloc w o))
    (hL : ∀ listed a w w', L listed a w → R w w' → L listed a w')
    (hdone : ∀ listed a w, L listed a w → ∀ j ∈ Region.ready md ops listed, n ≤ j)
    (hfl : ∀ x ∈ fl, FloatOk P ops n x) (hfi : (fl.map (·.1)).Nodup)
    (hblind : blindB ops n fl = true)
    (hend : ∀ listed a w D, L listed a w → (D.map (·.1)).Perm fl → (D.map (·.2)).Nodup → (∀ y ∈ D, base ≤ y.2 ∧ w.heap[y.2]? = some (.cells y.1.2.2.1.cells y.1.2.1)) → wpAny P md ops Q g listed (putD D a) w) :
    ∀ (k f : Nat) (fr : List Float) (D : List (Float × Nat)) (listed : Array Bool) (a : Act) (w : World), f + fr.length = k → HeadInv md ops n listed → (D.map (·.1) ++ fr).Perm fl → (D.map (·.2)).Nodup →
      base ≤ w.heap.size → (∀ y ∈ D, base ≤ y.2 ∧ w.heap[y.2]? = some (.cells y.1.2.2.1.cells y.1.2.1)) → (∀ x ∈ fr, listed.getD x.1 true = false) → (∀ y ∈ D, listed.getD y.1.1 false = true) →
      wpAnyE P md ops Q R (fun _ => false) n L f (setAll (fr.map (·.1)) listed) a w → wpAny P md ops Q (k + g) listed (putD D a) w := by
  intro k
  induction k with
  | zero =>
    intro f fr D listed a w hk inv hp hnd hbase hf hun hli H
    have hf0 : f = 0 := by omega
    have hr0 : fr = [] := List.eq_nil_of_length_eq_zero (by omega)
    subst hf0; subst hr0
    rw [Nat.zero_add]
    exact hend _ _ _ _ H (by simpa using hp) hnd hf
  | succ k ih =>
    intro f fr D listed a w hk inv hp hnd hbase hf hun hli H
    -- somebody may come up, and all who may stand in the head
    have hmemfl : ∀ x ∈ fr, x ∈ fl := fun x hx => hp.mem_iff.1 (List.mem_append_right _ hx)
    have frReady : ∀ x ∈ fr, x.1 ∈ Region.ready md ops listed := fun x hx => by
      obtain ⟨hlt, o, t, ho, _, _, _, haft, _⟩ := hfl x (hmemfl x hx)
      exact mem_ready.2 ⟨hun x hx, o, ho, by rw [haft]; simp⟩
    have hne : Region.ready md ops listed ≠ [] := by
      cases fr with
      | nil =>
        have : f = k + 1 := by simpa using hk
        subst this
        exact H.1
      | cons x r => exact List.ne_nil_of_mem (frReady x List.mem_cons_self)
    have hall : ∀ j ∈ Region.ready md ops listed, j < n := by
      cases fr with
      | nil =>
        have : f = k + 1 := by simpa using hk
        subst this
        exact fun j hj => (H.2 w (hRr w) j hj).1
      | cons x r => exact hw listed inv x.1 (hfl x (hmemfl x List.mem_cons_self)).1 (frReady x List.mem_cons_self)
    rw [show k + 1 + g = (k + g) + 1 by omega]
    refine ⟨fun h0 => absurd h0 hne, fun i hi => ?_⟩
    by_cases hif : i ∈ fr.map (·.1)
    · -- a new variable
      obtain ⟨x, hx, hxi⟩ := List.mem_map.1 hif
      obtain ⟨fr1, fr2, rfl⟩ := List.append_of_mem hx
      obtain ⟨hlt, o, t, ho, hop, hg, hdst, haft, hinfo, hz⟩ := hfl x (hmemfl x hx)
      rw [← hxi]
      unfold wpOp
      simp only [ho, Region.wanted, hg, if_true]
      refine .inl ?_
      unfold Oper.wp
      rw [run_alloc _ w hop hinfo hz]
      simp only [Oper.upon]
      rw [hdst, ← putD_cons (x, w.heap.size) D a]
      have hnotin : ∀ z ∈ fr1 ++ fr2, z.1 ≠ x.1 := fun z hz' he => by
        have h1 : ((D.map (·.1) ++ (fr1 ++ x :: fr2)).map (·.1)).Nodup := (hp.map _).nodup_iff.2 hfi
        rw [List.map_append] at h1
        have h2 := (List.nodup_append.1 h1).2.1
        rw [List.map_append, List.map_cons] at h2
        have h3 := List.perm_middle.nodup_iff.1 h2
        refine (List.nodup_cons.1 h3).1 ?_
        rw [← List.map_append, ← he]
        exact List.mem_map.2 ⟨z, hz', rfl⟩
      refine ih f (fr1 ++ fr2) ((x, w.heap.size) :: D) _ a _ (by simp at hk ⊢; omega) (inv.set (frReady x hx) hlt) ?_ ?_ (by simp; omega) ?_ ?_ ?_ ?_
      · refine List.Perm.trans ?_ hp
        simp only [List.map_cons, List.cons_append]
        rw [← List.append_assoc, ← List.append_assoc]
        exact List.perm_middle.symm
      · simp only [List.map_cons, List.nodup_cons]
        refine ⟨fun hm => ?_, hnd⟩
        obtain ⟨y, hy, hyb⟩ := List.mem_map.1 hm
        have h1 := (hf y hy).2
        rw [hyb] at h1
        simp at h1
      · intro y hy
        rcases List.mem_cons.1 hy with rfl | hy
        · refine ⟨hbase, ?_⟩
          show (w.heap.push _)[w.heap.size]? = _
          simp
        · obtain ⟨g1, g2⟩ := hf y hy
          refine ⟨g1, ?_⟩
          have hlt' : y.2 < w.heap.size := (Array.getElem?_eq_some_iff.1 g2).1
          rw [Below.heap_alloc _ _ _ hlt']
          exact g2
      · intro z hz'
        rw [getD_set_ne true (Ne.symm (hnotin z hz'))]
        exact hun z (by rcases List.mem_append.1 hz' with h | h
                        · exact List.mem_append_left _ h
                        · exact List.mem_append_right _ (List.mem_cons_of_mem _ h))
      · intro y hy
        rcases List.mem_cons.1 hy with rfl | hy
        · have hlt2 : x.1 < listed.size := by rw [inv.size]; exact (Array.getElem?_eq_some_iff.1 ho).1
          simp [hlt2]
        · exact getD_set_true (hli y hy)
      · rw [List.map_append, List.map_cons, setAll_middle, ← List.map_append] at H
        exact wpAnyE_closed (R := R) hRt hL f _ _ _ _ H (hRa _ _)
    · -- another one
      have hi' := ready_more (is := fr.map (·.1)) hi hif
      cases f with
      | zero => exact absurd (hall i hi) (by have := hdone _ _ _ H i hi'; omega)
      | succ f =>
        obtain ⟨_, oi, hoi, _⟩ := mem_ready.1 hi
        have hnf : ∀ y ∈ D, y.1.1 ≠ i := fun y hy he => by
          have h1 := hli y hy
          rw [he, getD_both (mem_ready.1 hi).1] at h1
          cases h1
        have hnf2 : ∀ x ∈ fl, x.1 ≠ i := fun x hx he => by
          rcases List.mem_append.1 (hp.mem_iff.2 hx) with h | h
          · obtain ⟨y, hy, rfl⟩ := List.mem_map.1 h
            exact hnf y hy he
          · exact hif (he ▸ List.mem_map.2 ⟨x, h, rfl⟩)
        have hbl : ∀ y ∈ D, y.1.2.2.2 ∉ oi.looksAt ops ∧ oi.dst ≠ some y.1.2.2.2 := fun y hy => by
          have h1 := List.all_eq_true.1 hblind i (List.mem_range.2 (hall i hi))
          have h2 : fl.any (fun x => x.1 == i) = false := by
            rw [List.any_eq_false]
            intro x hx
            simpa using hnf2 x hx
          rw [h2, Bool.false_or, hoi] at h1
          have hyfl : y.1 ∈ fl := hp.mem_iff.1 (List.mem_append_left _ (List.mem_map.2 ⟨y, hy, rfl⟩))
          have h3 := List.all_eq_true.1 h1 y.1 hyfl
          simpa using h3
        have h1 := (H.2 w (hRr w) i hi').2
        have h2 := wpOp_moreD hoi (fun cs b => Region.noSelect_spec hsel i oi cs b hoi) (fun _ _ _ h => h) D a hbl h1
        refine wpOp_monoQ (fun a' w'' h3 => ?_) (fun _ _ _ h => h.elim) qx_imp h2
        obtain ⟨b, rfl, hext, h4⟩ := h3
        have hE := hext rfl
        refine ih f fr D _ b w'' (by omega) (inv.set hi (hall i hi)) hp hnd (Nat.le_trans hbase hE.size) (fun y hy => ?_) (fun x hx => ?_) (fun y hy => getD_set_true (hli y hy)) ?_
        · obtain ⟨g1, g2⟩ := hf y hy
          exact ⟨g1, by rw [hE.block _ (Array.getElem?_eq_some_iff.1 g2).1]; exact g2⟩
        · rw [getD_set_ne true (fun e => hif (List.mem_map.2 ⟨x, hx, e.symm⟩))]
          exact hun x hx
        · rw [setAll_set]; exact h4

def okF (ops : Array Oper) (n : Nat) (fl : List Float) (segs : List Seg) : Bool :=
  Region.noSelect ops && waitB .any ops n && lexW .any ops n [] segs (setAll (fl.map (·.1)) (Array.replicate ops.size false)) && decide (count segs + fl.length + (ops.size - n) = ops.size) &&
  blindB ops n fl && decide ((fl.map (·.1)).Nodup) && decide ((fl.map (·.2.2.2)).Nodup)

/-- What is owed of the new variables. -/
def FloatsOk (P : Program) (ops : Array Oper) (n : Nat) : List Float → Prop
  | [] => True
  | x :: r => FloatOk P ops n x ∧ FloatsOk P ops n r

theorem FloatsOk.all {ops : Array Oper} : ∀ {fl : List Float}, FloatsOk P ops n fl → ∀ x ∈ fl, FloatOk P ops n x
  | [], _, x, hx => by cases hx
  | y :: r, h, x, hx => by
    rcases List.mem_cons.1 hx with rfl | hx
    · exact h.1
    · exact FloatsOk.all h.2 x hx

theorem inv_set {ops : Array Oper} : ∀ (is : List Nat) (listed : Array Bool), HeadInv md ops n listed → (∀ i ∈ is, i < n ∧ ∃ o, ops[i]? = some o ∧ o.after = #[]) → HeadInv md ops n (setAll is listed)
  | [], _, inv, _ => inv
  | i :: is, listed, inv, h => by
    obtain ⟨hi, o, ho, ha⟩ := h i List.mem_cons_self
    refine inv_set is _ ⟨by simp [inv.size], fun j oj hj hl e he hb => ?_, fun t ht ht' => by rw [getD_set_ne true (by omega)]; exact inv.tail t ht ht'⟩ (fun k hk => h k (List.mem_cons_of_mem _ hk))
    by_cases hij : i = j
    · subst hij
      have : oj = o := Option.some.inj (hj.symm.trans ho)
      subst this
      rw [ha] at he
      simp at he
    · rw [getD_set_ne false hij] at hl
      exact getD_set_true (inv.closed j oj hj hl e he hb)

/-- .. WITH NEW VARIABLES AMONG THE HEAD, whose addresses nobody asks for there: others may step between. -/
theorem regionF {id : Nat} {a : Act} {w : World} (n : Nat) (fl : List Float) (segs : List Seg) (hm : P.follows .mixedOrders = true) (hB : okF l.toArray n fl segs = true)
    (hfl : FloatsOk P l.toArray n fl)
    (h : W P l Q Ext ClX (fun a' w' => ∀ w2, Ext w' w2 → Fl (wpList P l.toArray Q (l.drop n)) w.heap.size fl [] a' w2) segs a w.drew) : (Code.region id l.toArray true).wp P Q a w := by
  simp only [okF, Bool.and_eq_true, decide_eq_true_eq] at hB
  obtain ⟨⟨⟨⟨⟨⟨hsel, hwt⟩, hlex⟩, hcount⟩, hblind⟩, hfi⟩, hfd⟩ := hB
  obtain ⟨hn, hw⟩ := waitB_spec hwt
  have hflA := hfl.all
  have inv1 := inv_set (md := .any) (n := n) (fl.map (·.1)) _ (inv0 (md := .any) (n := n) (ops := l.toArray)) (fun i hi => by
    obtain ⟨x, hx, rfl⟩ := List.mem_map.1 hi
    obtain ⟨hlt, o, t, ho, _, _, _, haft, _⟩ := hflA x hx
    exact ⟨hlt, o, ho, haft⟩)
  have h1 := canon (R := Ext) hsel hw hn (fun _ _ _ h k => Ext.trans h k) (fun a b h => h) (Cl := ClX) (fun w => ClX.mk (Ext.refl w)) (fun w x h => h.ext) (fun a w w' h hr w2 h2 => h w2 (Ext.trans hr h2)) segs _ a w.drew inv1 hlex h
  refine wp_region_any hm ?_
  have hlen : (l.drop n).length = l.toArray.size - n := by simp
  have h2 := sim (R := Ext) (L := fun listed a w2 => Region.seqB .any l.toArray (l.toArray.size - n) n listed = true ∧ ∀ w3, Ext w2 w3 → Fl (wpList P l.toArray Q (l.drop n)) w.heap.size fl [] a w3)
    (Q := Q) (base := w.heap.size) (fl := fl) (g := l.toArray.size - n) hsel hw (fun a => Ext.refl a) (fun _ _ _ h k => Ext.trans h k) (fun w o => Below.alloc (Ext.refl w) (Nat.le_refl _) o)
    (fun listed a w w' hL hr => ⟨hL.1, fun w3 h3 => hL.2 w3 (Ext.trans hr h3)⟩) (fun _ _ _ hL => seqB_ready hL.1) hflA hfi hblind
    (fun listed a w2 D hL hp hnd hf => by
      have h3 := Fl_use fl [] D a hfd hp hnd (fun y hy => ⟨(hf y hy).1, (hf y hy).2, by simp⟩) (hL.2 w2 (Ext.refl w2))
      have := wpAny_of_seq (md := .any) (Q' := Q) (l.drop n) n listed (putD D a) w2 (fun j => by simp [List.getElem?_drop]) (by rw [hlen]; exact hL.1) h3
      rwa [hlen] at this)
    (count segs + fl.length) (count segs) fl [] (Array.replicate l.toArray.size false) a w.drew rfl inv0 (by simp) (by simp) (Nat.le_refl _) (by simp)
    (fun x hx => getD_in (by simp; obtain ⟨hlt, o, t, ho, _⟩ := hflA x hx; have := (Array.getElem?_eq_some_iff.1 ho).1; simpa using this) (getD_replicate_false _ _)) (by simp) h1
  rw [hcount] at h2
  exact h2

/-! ### The steps of the walk -/
section
variable {F : Act → World → Prop} {is : List Nat} {rest : List Seg} {a : Act} {w : World} {A : Act} {j : Nat} {any : Bool}
theorem W_q (h1 : ∀ w', Ext w w' → wpQuiet P l.toArray (Cl w') (fun a' => a' = A) (pick l is) a) (h2 : W P l Q R Cl F rest A w) : W P l Q R Cl F (.q false is :: rest) a w :=
  ⟨A, fun w' h => h1 w' (h.resolve_left (by simp)), h2⟩
theorem W_s (h1 : ∀ w', wpQuiet P l.toArray (Cl w') (fun a' => a' = A) (pick l is) a) (h2 : W P l Q R Cl F rest A w) : W P l Q R Cl F (.q true is :: rest) a w :=
  ⟨A, fun w' _ => h1 w', h2⟩
theorem W_e (h : ∀ K : Exit → Act → World → Prop, (∀ a w, Q .outgrown a w → K .outgrown a w) → (∀ a'' w'', ((any = false → Ext w w'') ∧ W P l Q (fun x y => x = y) ClE F rest a'' w'') → K .normal a'' w'') →
    wpList P l.toArray K (pick l [j]) a w) : W P l Q (fun x y => x = y) ClE F (.e any j :: rest) a w := by
  rintro _ rfl
  exact h _ (fun a w h => h) (fun a w h => h)
theorem W_f (h : ∀ w', Ext w w' → ∀ K : Exit → Act → World → Prop, (∀ a w, Q .outgrown a w → K .outgrown a w) → (∀ a'' w'', ((any = false → Ext w' w'') ∧ W P l Q Ext ClX F rest a'' w'') → K .normal a'' w'') →
    wpList P l.toArray K (pick l [j]) a w') : W P l Q Ext ClX F (.e any j :: rest) a w := by
  intro w' hw'
  exact h w' hw' _ (fun a w h => h) (fun a w h => h)
theorem W_n (h : F a w) : W P l Q R Cl F [] a w := h
end
end
end RG
end Go
