/- A range over a function: walks within a round; the rule of the statement; how the function ends. -/
import Derived.Test.YtdingfinclcbgaaSE8
import Derived.RangeFuncLeaves
import Derived.RangeFuncRecord
import Derived.RangeFuncSeq
import Derived.LoopNIn
import Derived.TacticsIn
import Derived.OrdersIn
import Derived.KernelRfl
import Derived.RangeFuncOwn
namespace Go
namespace SE
open Go.RowKit
set_option linter.unusedVariables false
set_option linter.unusedSimpArgs false

abbrev FQ (ρ : Option Nat) : Fence := { Fence.wide with round := ρ }
abbrev FR (l : Nat) : Fence := FQ (some l)

section
variable {P : Program} {l0 : Option Nat} {n0 : Nat}
theorem Oper.in_of {o : Oper} {a : Act} {w : World} {next : Act → World → Prop} {Q : Exit → Act → World → Prop} (hnd : ∀ c, o.op ≠ .defer c) (h : o.wp P a w next Q) : o.wpIn (FQ l0) n0 P a w next Q := by
  refine ⟨fun _ _ => trivial, ?_⟩
  rw [Oper.semAt_eq _ _ _ hnd]
  unfold Oper.wp at h
  generalize (execOp a.eval o).run P w = r at h ⊢
  have hd : (FQ l0).depth.isSome = true → 1 ≤ n0 := fun h => by cases h
  cases r with
  | ok x w' =>
    cases x <;> simp only [Oper.upon, Oper.uponIn] at h ⊢
    all_goals first
      | exact h
      | exact h.elim
      | exact ⟨hd, (callsIn_wide (n := n0 - 1)).2 h⟩
      | exact ⟨hd, fun c cs _ => let ⟨v, w2, h1, h2⟩ := h c cs; ⟨v, w2, h1, stepsIn_wide.2 h2⟩⟩
  | halt x w' => cases x <;> simp only [Oper.upon, Oper.uponIn] at h ⊢ <;> first | exact h | exact h.elim
def noDeferB (l : List Oper) : Bool := l.all fun o => match o.op with | .defer _ => false | _ => true
theorem noDefer_mem {l : List Oper} (h : noDeferB l = true) {o : Oper} (ho : o ∈ l) : ∀ c, o.op ≠ .defer c := by
  intro c hc
  have := List.all_eq_true.1 h o ho
  rw [hc] at this
  cases this
theorem list_in {ops : Array Oper} {Q : Exit → Act → World → Prop} (hQ : LetsOut Q → False) : ∀ (L : List Oper) (a : Act) (w : World), noDeferB L = true → wpList P ops Q L a w → wpListIn (FQ l0) n0 P ops Q L a w
  | [], a, w, _, h => h
  | o :: L, a, w, hd, h => by
    have hd1 := noDefer_mem hd List.mem_cons_self
    have hd2 : noDeferB L = true := by unfold noDeferB at hd ⊢; simp only [List.all_cons, Bool.and_eq_true] at hd; exact hd.2
    unfold wpList at h
    unfold wpListIn
    split at h
    · rename_i hw
      rw [if_pos hw]
      refine Oper.wpIn_mono (fun a w h => list_in hQ L a w hd2 h) ?_
      rcases h with h | h
      · exact Oper.in_of hd1 h
      · exact (hQ h.2).elim
    · rename_i hw
      rw [if_neg hw]
      exact ⟨fun _ _ => trivial, list_in hQ L _ w hd2 h⟩
theorem any_in {md : Region.Mode} {ops : Array Oper} {Q : Exit → Act → World → Prop} (hQ : LetsOut Q → False) (hd : noDeferB ops.toList = true) : ∀ (fuel : Nat) (listed : Array Bool) (a : Act) (w : World), wpAny P md ops Q fuel listed a w → wpAnyIn (FQ l0) n0 P md ops Q fuel listed a w
  | 0, _, _, _, h => h
  | fuel + 1, listed, a, w, h => by
    refine ⟨h.1, fun i hi => ?_⟩
    have h2 := h.2 i hi
    unfold wpOp at h2
    unfold wpOpIn
    split
    · rename_i ho
      simp only [ho] at h2
      exact any_in hQ hd fuel _ _ _ h2
    · rename_i o ho
      simp only [ho] at h2
      have hd1 : ∀ c, o.op ≠ .defer c := noDefer_mem hd (by
        obtain ⟨h1, h2⟩ := Array.getElem?_eq_some_iff.1 ho
        rw [← h2]
        simp)
      split
      · rename_i hw
        simp only [hw, if_true] at h2
        refine Oper.wpIn_mono (fun a w h => any_in hQ hd fuel _ a w h) ?_
        rcases h2 with h2 | h2
        · exact Oper.in_of hd1 h2
        · exact (hQ h2.2).elim
      · rename_i hw
        simp only [hw] at h2
        exact ⟨fun _ _ => trivial, any_in hQ hd fuel _ _ _ h2⟩
theorem regionX_any {l : List Oper} {Q : Exit → Act → World → Prop} {a : Act} {w : World} (n : Nat) (anyL : List Nat) (segs : List RG.Seg) (hB : RG.okB l.toArray n anyL segs = true)
    (h : RG.W P l Q RG.Ext RG.ClX (fun a' w' => ∀ w2, RG.Ext w' w2 → wpList P l.toArray Q (l.drop n) a' w2) segs a w.drew) : wpAny P .any l.toArray Q l.toArray.size (Array.replicate l.toArray.size false) a w.drew := by
  simp only [RG.okB, Bool.and_eq_true, decide_eq_true_eq] at hB
  obtain ⟨⟨⟨hsel, hwt⟩, hlex⟩, hcount⟩ := hB
  obtain ⟨hn, hw⟩ := RG.waitB_spec hwt
  have h1 := RG.canon (R := RG.Ext) hsel hw hn (fun _ _ _ h k => RG.Ext.trans h k) (fun a b h => h) (Cl := RG.ClX) (fun w => RG.ClX.mk (RG.Ext.refl w)) (fun w x h => h.ext) (fun a w w' h hr w2 h2 => h w2 (RG.Ext.trans hr h2)) segs _ a w.drew RG.inv0 hlex h
  have hlen : (l.drop n).length = l.toArray.size - n := by simp
  have h2 := RG.wpAny_of_E (g := l.toArray.size - n) (fun a => RG.Ext.refl a) (fun listed a w hL => by
    have := wpAny_of_seq (md := .any) (Q' := Q) (l.drop n) n listed a w (fun j => by simp [List.getElem?_drop]) (by rw [hlen]; exact hL.1) (hL.2 w (RG.Ext.refl w))
    rwa [hlen] at this) _ _ _ _ h1
  rw [hcount] at h2
  exact h2
end

section
variable {P : Program} {E : Env} {fr : Fr} {H : Hp} {Q : Exit → Act → World → Prop} {F : Fence} {n l0 : Nat}
theorem At.seqR {c d : Code} (h : At E fr H (c.wpIn F n P (Exit.then (d.wpIn F n P Q) Q))) : At E fr H ((Code.seq c d).wpIn F n P Q) := fun a w R => wpIn_seq (h a w R)
theorem At.blockR {id : Nat} {c : Code} (h : At E fr H (c.wpIn F n P (Exit.inBlock id Q))) : At E fr H ((Code.block id c).wpIn F n P Q) := fun a w R => wpIn_block (h a w R)
theorem At.exitR {id : Nat} (h : At E fr H (Q (.exit id))) : At E fr H ((Code.exit id).wpIn F n P Q) := fun a w R => wpIn_exit (h a w R)
theorem At.skipR (h : At E fr H (Q .normal)) : At E fr H (Code.skip.wpIn F n P Q) := fun a w R => wpIn_skip (h a w R)
theorem At.retR (h : At E fr H (Q .ret)) : At E fr H (Code.ret.wpIn F n P Q) := fun a w R => wpIn_ret (h a w R)
theorem At.condR {c : Operand} {p q : Code} {bb : Bool} (hc : fr.ev c = some (.bool bb)) (h1 : bb = true → At E fr H (p.wpIn F n P Q)) (h2 : bb = false → At E fr H (q.wpIn F n P Q)) : At E fr H ((Code.cond c p q).wpIn F n P Q) := by
  intro a w R
  refine wpIn_cond (t := bb) (R.ev hc) ?_
  cases bb
  · exact h2 rfl a w R
  · exact h1 rfl a w R
theorem At.loopR {c : Code} (I : Nat → Fr → Hp → Prop) (m : Nat) (h0 : I m fr H)
    (h : ∀ m fr H, I m fr H → ∀ K : Act → World → Prop, (∀ m' fr' H', m' < m → I m' fr' H' → At E fr' H' K) → At E fr H (c.wpIn F n P (Exit.then K Q))) : At E fr H ((Code.loop c).wpIn F n P Q) := by
  have key : ∀ k m fr H, I m fr H → m < k → At E fr H (Code.roundsIn F n P c Q k) := by
    intro k
    induction k with
    | zero => intro m fr H _ hm; omega
    | succ k ih =>
      intro m fr H hI hm a w R
      rw [roundsIn_succ]
      exact h m fr H hI _ (fun m' fr' H' hm' hI' => ih m' fr' H' hI' (by omega)) a w R
  exact fun a w R => wpIn_loop_rounds (m + 1) (key (m + 1) m fr H h0 (by omega) a w R)
theorem At.loopxR {c : Code} {I : Nat → Fr → Hp → Prop} (h0 : ∀ K : Act → World → Prop, (∀ m fr H, I m fr H → At E fr H K) → At E fr H K)
    (h : ∀ m fr H, I m fr H → ∀ K : Act → World → Prop, (∀ m' fr' H', m' < m → I m' fr' H' → At E fr' H' K) → At E fr H (c.wpIn F n P (Exit.then K Q))) : At E fr H ((Code.loop c).wpIn F n P Q) :=
  h0 _ fun m fr H hI => At.loopR I m hI h
theorem At.regionR {id : Nat} {l : List Oper} (hQ : LetsOut Q → False) (h : At E fr H (wpList P l.toArray Q l)) (hd : noDeferB l = true := by kernel_rfl) : At E fr H ((Code.region id l.toArray false).wpIn (FR l0) n P Q) :=
  fun a w R => wpIn_region_lit (list_in hQ l a w hd (h a w R))
theorem At.drawsR {id : Nat} {l : List Oper} (k : Nat) (anyL : List Nat) (segs : List RG.Seg) (hm : P.follows .mixedOrders = true) (hB : RG.okB l.toArray k anyL segs = true) (hQ : LetsOut Q → False)
    (h : At E fr H (WX P l Q k segs)) (hd : noDeferB l = true := by kernel_rfl) : At E fr H ((Code.region id l.toArray true).wpIn (FR l0) n P Q) :=
  fun a w R => wpIn_region_any hm (any_in hQ (by simpa using hd) _ _ _ _ (regionX_any k anyL segs hB (h a _ R.drew)))
end

/-! ### A walk that begins anew at a world, some blocks of which nobody may touch -/
def newB (E : Env) (w : World) (X : List Nat) : List Nat := E.S ++ (List.range w.heap.size).filter fun k => decide (E.W0.heap.size ≤ k) && !X.contains k
def Env.re (E : Env) (w : World) (X : List Nat) (df : List Deferred) : Env := ⟨w, newB E w X, E.n, df⟩
theorem mem_newB {E : Env} {w : World} {X : List Nat} {k : Nat} : k ∈ newB E w X ↔ k ∈ E.S ∨ (k < w.heap.size ∧ E.W0.heap.size ≤ k ∧ k ∉ X) := by
  unfold newB
  simp [List.mem_append, List.mem_filter]
theorem cells_of_cell' {W : World} {a : Addr} {v : Value} (h : W.cell? a = some v) : ∃ o : Obj, W.heap[a.block]? = some o ∧ o.isCells = true := by
  unfold World.cell? at h
  cases ho : W.heap[a.block]? with
  | none => simp [ho] at h
  | some o => exact ⟨o, rfl, by cases o <;> simp_all [Obj.isCells]⟩
structure Re (E : Env) (w : World) (X : List Nat) : Prop where
  chg : Chg E.S E.W0 w
  new : ∀ k ∈ X, E.W0.heap.size ≤ k ∧ k ∉ E.S
  ob : ∀ k ∈ X, ∃ o : Obj, w.heap[k]? = some o ∧ o.isCells = false
section
variable {E : Env} {fr : Fr} {H : Hp} {a : Act} {w w1 : World} {X : List Nat} {df : List Deferred}
theorem HR.re (h : HR E H w) (hX : Re E w X) : HR (E.re w X df) H w := by
  refine ⟨fun k r hk => ?_, h.apart⟩
  have h1 := h.row k r hk
  unfold RowR at h1 ⊢
  split at h1
  · rename_i ho
    refine ⟨h1.1, fun hz => ?_⟩
    obtain ⟨g1, g2, tl, fz, g3, g4, g5⟩ := h1.2 hz
    refine ⟨g1, Or.inl (mem_newB.2 ?_), tl, fz, g3, g4, g5⟩
    rcases g2 with g2 | g2
    · exact Or.inl g2
    · refine Or.inr ⟨g1, g2, fun hm => ?_⟩
      obtain ⟨o, ho1, ho2⟩ := hX.ob _ hm
      rw [g5] at ho1
      cases ho1
      cases ho2
  · intro hne
    obtain ⟨g1, g2, g3⟩ := h1 hne
    refine ⟨Nat.lt_of_lt_of_le g1 hX.chg.size, fun hm => ?_, fun j v hj => ?_⟩
    · rcases mem_newB.1 hm with hm | ⟨_, hm, _⟩
      · exact g2 hm
      · omega
    · show w.cell? ⟨r.b, r.s + j, none⟩ = some v
      rw [World.cell?_of_block (w := E.W0) (hX.chg.block r.b g1 g2)]
      exact g3 j v hj
theorem Rep.re (h : Rep E fr H a w) (hX : Re E w X) : Rep (E.re w X df) fr H { a with defers := df } w :=
  ⟨rfl, h.size, h.fr, Chg.refl _ _, h.heap.re hX⟩
theorem Re.chg_back (hX : Re E w1 X) (hc : Chg (newB E w1 X) w1 w) : Chg E.S E.W0 w :=
  hX.chg.trans_new hc fun k hk => by
    rcases mem_newB.1 hk with h | h
    · exact Or.inl h
    · exact Or.inr h.2.1
theorem Re.keep (hX : Re E w1 X) (hc : Chg (newB E w1 X) w1 w) {k : Nat} (hk : k ∈ X) : w.heap[k]? = w1.heap[k]? := by
  obtain ⟨o, ho, _⟩ := hX.ob k hk
  refine hc.block k (Array.getElem?_eq_some_iff.1 ho).1 fun hm => ?_
  rcases mem_newB.1 hm with h | h
  · exact (hX.new k hk).2 h
  · exact h.2.2 hk
theorem Re.hr_back (hX : Re E w1 X) (hc : Chg (newB E w1 X) w1 w) (h : HR (E.re w1 X df) H w) : HR E H w := by
  refine ⟨fun k r hk => ?_, h.apart⟩
  have h1 := h.row k r hk
  unfold RowR at h1 ⊢
  split at h1
  · rename_i ho
    refine ⟨h1.1, fun hz => ?_⟩
    obtain ⟨g1, g2, g3⟩ := h1.2 hz
    refine ⟨g1, ?_, g3⟩
    rcases g2 with g2 | g2
    · rcases mem_newB.1 g2 with g2 | g2
      · exact Or.inl g2
      · exact Or.inr g2.2.1
    · exact Or.inr (Nat.le_trans hX.chg.size g2)
  · intro hne
    obtain ⟨g1, g2, g3⟩ := h1 hne
    have hS : r.b ∉ E.S := fun hm => g2 (mem_newB.2 (Or.inl hm))
    have hlt : r.b < E.W0.heap.size := by
      refine Classical.byContradiction fun hge => ?_
      have hge : E.W0.heap.size ≤ r.b := by omega
      refine g2 (mem_newB.2 (Or.inr ⟨g1, hge, fun hm => ?_⟩))
      obtain ⟨o, ho1, ho2⟩ := hX.ob _ hm
      obtain ⟨v, hv⟩ : ∃ v, r.cells[0]? = some v := by
        cases hcs : r.cells with
        | nil => exact absurd hcs hne
        | cons x l => exact ⟨x, by simp⟩
      obtain ⟨o', ho1', ho2'⟩ := cells_of_cell' (g3 0 v hv)
      have ho1' : w1.heap[r.b]? = some o' := ho1'
      rw [ho1'] at ho1
      cases ho1
      rw [ho2] at ho2'
      cases ho2'
    refine ⟨hlt, hS, fun j v hj => ?_⟩
    rw [← World.cell?_of_block (w := E.W0) (hX.chg.block _ hlt hS)]
    exact g3 j v hj
/-- What is no row's may turn. -/
theorem HR.putObj {b : Nat} {o o' : Obj} (h : HR E H w) (hc : Chg E.S E.W0 w) (hb : w.heap[b]? = some o) (ho : o.isCells = false) : HR E H (w.putObj b o') := by
  refine ⟨fun k r hk => ?_, h.apart⟩
  have h1 := h.row k r hk
  unfold RowR at h1 ⊢
  split at h1
  · refine ⟨h1.1, fun hz => ?_⟩
    obtain ⟨g1, g2, tl, fz, g3, g4, g5⟩ := h1.2 hz
    have hne : r.b ≠ b := fun he => by rw [he, hb] at g5; cases g5; cases ho
    exact ⟨by simpa using g1, g2, tl, fz, g3, g4, (World.putObj_heap_other hne).trans g5⟩
  · exact h1
theorem Chg.putObj {S : List Nat} {w0 : World} {b : Nat} {o : Obj} (h : Chg S w0 w) (hb : w0.heap.size ≤ b) : Chg S w0 (w.putObj b o) :=
  ⟨h.os, h.tape, h.output, by simpa using h.size, fun k hk hn => (World.putObj_heap_other (by omega)).trans (h.block k hk hn)⟩
end

/-! ### The statement -/
/-- What an iterator does: the values come one behind the other, whatever the rounds keep; C is what it reads. -/
def Iter (P : Program) (gf : FuncId) (lb : List Value) (xs : List Value) (C : World → Prop) : Prop :=
  ∀ (l : Nat) (J : Nat → World → Prop) (Jx : World → Prop) (W : World), (∀ i A B, J i A → Below A.heap.size A B → J i B) → (∀ A B, Jx A → Below A.heap.size A B → Jx B) → (∀ i A, J i A → C A) →
    (∀ i x A, J i A → xs[i]? = some x → YieldAt Fence.wide 0 P l #[x] A fun e B => (e = .returned (.bool true) ∧ J (i + 1) B) ∨ (e = .returned (.bool false) ∧ Jx B)) → J 0 W →
    Calls P gf (#[.func (.yield l) #[] #[]] ++ lb.toArray) W fun e B => (∃ v, e = .returned v) ∧ (J xs.length B ∨ Jx B)
section
variable {P : Program} {E : Env} {fr : Fr} {H : Hp} {Q : Exit → Act → World → Prop}
theorem RoundIn.any_n {n m l : Nat} {f : FuncId} {tmps : Array Value} {assign body : Code} {w : World} {R : Ending → World → Prop} (h : RoundIn Fence.wide n P l f tmps assign body w R) : RoundIn Fence.wide m P l f tmps assign body w R :=
  ⟨h.1, fun c cs _ => h.2 c cs (room_wide _)⟩
theorem At.range {g : Operand} {p : Tmp} {assign body : Code} {gf : FuncId} {lb xs : List Value} (C : World → Prop) (hIt : Iter P gf lb xs C) (Inv : Nat → Hp → Prop) (Rx : Hp → Prop) (fra : Value → Fr)
    (hg : fr.ev g = some (.func (.func gf) #[] lb.toArray)) (he : entersB P gf = true) (hE : E.df = []) (hS : ∀ k ∈ E.S, k < E.W0.heap.size)
    (hC : ∀ i H' w, Inv i H' → Chg E.S E.W0 w → HR E H' w → C w) (h0 : Inv 0 H)
    (hassign : ∀ (l n : Nat) (wb : World) (X : List Nat) (x : Value) (H' : Hp) (K : Act → World → Prop), At (E.re wb X []) (fra x) H' K → At (E.re wb X []) (fr.put E.n (some p) x) H' (assign.wpIn (FR l) n P (Exit.then K fun _ _ _ => False)))
    (hbody : ∀ (l n : Nat) (wb : World) (X : List Nat) (i : Nat) (x : Value) (H' : Hp), xs[i]? = some x → Inv i H' → ∀ Q' : Exit → Act → World → Prop, (∀ fr' H'', Inv (i + 1) H'' → At (E.re wb X []) fr' H'' (Q' .normal)) → (∀ fr' H'', Rx H'' → At (E.re wb X []) fr' H'' (Q' .ret)) → (∀ a w, Q' .outgrown a w → False) →
      At (E.re wb X []) (fra x) H' (body.wpIn (FR l) n P Q'))
    (hend : ∀ (D : Nat) (w1 : World), Re E w1 [D] → w1.heap[D]? = some (.deferred (some [])) → ∀ H', Inv xs.length H' → At (E.re w1 [D] [{ target := .collected D, args := #[] }]) fr H' (Q .normal))
    (hret : ∀ (D : Nat) (w1 : World), Re E w1 [D] → w1.heap[D]? = some (.deferred (some [])) → ∀ H', Rx H' → At (E.re w1 [D] [{ target := .collected D, args := #[] }]) fr H' (Q .ret)) :
    At E fr H ((Code.rangeFunc g #[p] assign body).wp P Q) := by
  intro a w R
  refine (wpIn_wide (n := 1)).1 (wpIn_rangeFunc fun fn _ => ?_)
  have hdf : a.defers = [] := R.df.trans hE
  obtain ⟨rec, hrec⟩ : ∃ rec : LoopState → Option Code → Loop, rec = fun st pe => { state := st, pending := pe, fn, tmps := a.tmps, params := #[p], assign, body, defers := w.heap.size } := ⟨_, rfl⟩
  obtain ⟨W1, hW1⟩ : ∃ W1, (w.alloc (.deferred (some []))).alloc (.loop (rec .ready none)) = W1 := ⟨_, rfl⟩
  have hsz := R.chg.size
  have hL1 : W1.heap[w.heap.size + 1]? = some (.loop (rec .ready none)) := by
    rw [← hW1]; have := World.alloc_heap_new (w.alloc (.deferred (some []))) (.loop (rec .ready none)); rwa [World.size_alloc] at this
  have hK1 : W1.heap[w.heap.size]? = some (.deferred (some [])) := by
    rw [← hW1]; exact (Below.heap_alloc _ _ _ (by simp)).trans (World.alloc_heap_new w _)
  have hb1 : Below w.heap.size w W1 := by
    rw [← hW1]; exact ((Below.refl _ w).alloc (Nat.le_refl _) _).alloc (by simp) _
  have hnew : ∀ k ∈ [w.heap.size, w.heap.size + 1], E.W0.heap.size ≤ k := by
    intro k hk
    simp only [List.mem_cons, List.not_mem_nil, or_false] at hk
    omega
  have hnS : ∀ k ∈ [w.heap.size, w.heap.size + 1], k ∉ E.S := fun k hk hm => by
    have := hS k hm
    have := hnew k hk
    omega
  -- what is kept from round to round
  let J : Nat → World → Prop := fun i W => ∃ H', Inv i H' ∧ Chg E.S E.W0 W ∧ HR E H' W ∧ W.heap[w.heap.size + 1]? = some (.loop (rec .ready none)) ∧ W.heap[w.heap.size]? = some (.deferred (some []))
  let Jx : World → Prop := fun W => ∃ H', Rx H' ∧ Chg E.S E.W0 W ∧ HR E H' W ∧ W.heap[w.heap.size + 1]? = some (.loop (rec .done (some .ret))) ∧ W.heap[w.heap.size]? = some (.deferred (some []))
  have hxD : w.heap.size ∈ [w.heap.size, w.heap.size + 1] := by simp
  have hxL : w.heap.size + 1 ∈ [w.heap.size, w.heap.size + 1] := by simp
  have hre : ∀ {W : World} {st : LoopState} {pe : Option Code}, Chg E.S E.W0 W → W.heap[w.heap.size + 1]? = some (.loop (rec st pe)) → W.heap[w.heap.size]? = some (.deferred (some [])) → Re E W [w.heap.size, w.heap.size + 1] := fun hc h1 h2 =>
    ⟨hc, fun k hk => ⟨hnew k hk, hnS k hk⟩, fun k hk => by
      simp only [List.mem_cons, List.not_mem_nil, or_false] at hk
      rcases hk with rfl | rfl
      · exact ⟨_, h2, rfl⟩
      · exact ⟨_, h1, rfl⟩⟩
  have hre1 : ∀ {W : World}, Chg E.S E.W0 W → W.heap[w.heap.size]? = some (.deferred (some [])) → Re E W [w.heap.size] := fun hc h2 =>
    ⟨hc, fun k hk => by
      obtain rfl : k = w.heap.size := by simpa using hk
      exact ⟨hnew _ hxD, hnS _ hxD⟩, fun k hk => by
      obtain rfl : k = w.heap.size := by simpa using hk
      exact ⟨_, h2, rfl⟩⟩
  have hJ1 : J 0 W1 := ⟨H, h0, R.chg.trans (Chg.of_below hb1), R.heap.below hb1, hL1, hK1⟩
  refine ⟨w.heap.size + 1, [{ target := .collected w.heap.size, args := #[] }], W1, { target := .fn (.func gf) lb.toArray, args := #[.func (.yield (w.heap.size + 1)) #[] #[]] }, W1, gf,
    #[.func (.yield (w.heap.size + 1)) #[] #[]] ++ lb.toArray, W1, ?_, ?_, fun _ _ => trivial, ?_, (fun h => by cases h), ?_⟩
  · rw [← hW1, hrec]; exact run_enterLoop_outer _ _ _ _ _
  · simp only [resolve, R.ev hg]
    simp [go_sem]
  · simp [invoke, run_enters he]
  · refine callsIn_wide.2 ((hIt (w.heap.size + 1) J Jx W1 ?_ ?_ ?_ ?_ hJ1).mono ?_)
    · rintro i A B ⟨H', h1, h2, h3, h4, h5⟩ hb
      exact ⟨H', h1, h2.trans (Chg.of_below hb), h3.below hb, (hb.block _ (Array.getElem?_eq_some_iff.1 h4).1).trans h4, (hb.block _ (Array.getElem?_eq_some_iff.1 h5).1).trans h5⟩
    · rintro A B ⟨H', h1, h2, h3, h4, h5⟩ hb
      exact ⟨H', h1, h2.trans (Chg.of_below hb), h3.below hb, (hb.block _ (Array.getElem?_eq_some_iff.1 h4).1).trans h4, (hb.block _ (Array.getElem?_eq_some_iff.1 h5).1).trans h5⟩
    · rintro i A ⟨H', h1, h2, h3, _⟩
      exact hC i H' A h1 h2 h3
    · rintro i x A ⟨H', hi, hc, hh, hl, hd⟩ hx
      have hy := run_yield (P := P) (args := #[x]) hl (by rw [hrec]; rfl)
      rw [hrec] at hy
      refine ⟨fn, _, assign, body, hy, ?_⟩
      refine roundIn_of_wpIn (n := 0) trivial ?_
      have R0 : Rep E (fr.put E.n (some p) x) H' (a.put (some p) x) A := (⟨R.df, R.size, R.fr, hc, hh⟩ : Rep E fr H' a A).put (some p) x
      have R1 := R0.re (df := []) (hre hc hl hd)
      have e0 : ({ a.put (some p) x with defers := [] } : Act) = { tmps := ((#[p].zip #[x]).foldl (fun tmps (t, a) => tmps.setIfInBounds t a) a.tmps), defers := [] } := by
        simp [Act.put]
      rw [e0] at R1
      refine hassign (w.heap.size + 1) 0 A _ x H' _ ?_ _ _ R1
      intro a1 w1 R2
      have c2 := (hre hc hl hd).chg_back R2.chg
      have hh2 := (hre hc hl hd).hr_back R2.chg R2.heap
      have hl2 := ((hre hc hl hd).keep R2.chg hxL).trans hl
      have hd2 := ((hre hc hl hd).keep R2.chg hxD).trans hd
      refine ⟨_, run_beginRound hl2 (by rw [hrec]), ?_⟩
      have hlt : w.heap.size + 1 < w1.heap.size := (Array.getElem?_eq_some_iff.1 hl2).1
      have c3 : Chg E.S E.W0 (w1.putObj (w.heap.size + 1) (.loop { rec .ready none with state := .busy })) := Chg.putObj c2 (hnew _ hxL)
      have hh3 : HR E H' (w1.putObj (w.heap.size + 1) (.loop { rec .ready none with state := .busy })) := hh2.putObj c2 hl2 rfl
      have hl3 : (w1.putObj (w.heap.size + 1) (.loop { rec .ready none with state := .busy })).heap[w.heap.size + 1]? = some (.loop (rec .busy none)) := by
        rw [World.putObj_heap_same hlt, hrec]
      have hd3 : (w1.putObj (w.heap.size + 1) (.loop { rec .ready none with state := .busy })).heap[w.heap.size]? = some (.deferred (some [])) := (World.putObj_heap_other (by omega)).trans hd2
      have R3 : Rep E (fra x) H' { a1 with defers := [] } (w1.putObj (w.heap.size + 1) (.loop { rec .ready none with state := .busy })) := ⟨hE.symm, R2.size, R2.fr, c3, hh3⟩
      have R4 := R3.re (df := []) (hre c3 hl3 hd3)
      have e1 : ({ a1 with defers := [] } : Act) = a1 := by
        have := R2.df
        cases a1
        simp only at this
        subst this
        rfl
      rw [e1] at R4
      refine hbody (w.heap.size + 1) 0 _ _ i x H' hx hi _ ?_ ?_ (fun _ _ h => h) a1 _ R4
      · intro fr' H'' hI a5 w5 R5
        have c5 := (hre c3 hl3 hd3).chg_back R5.chg
        have hh5 := (hre c3 hl3 hd3).hr_back R5.chg R5.heap
        have hl5 := ((hre c3 hl3 hd3).keep R5.chg hxL).trans hl3
        have hd5 := ((hre c3 hl3 hd3).keep R5.chg hxD).trans hd3
        have hlt5 : w.heap.size + 1 < w5.heap.size := (Array.getElem?_eq_some_iff.1 hl5).1
        refine ⟨_, _, run_endRound none hl5, Or.inl ⟨rfl, H'', hI, c5.putObj (hnew _ hxL), hh5.putObj c5 hl5 rfl, ?_, (World.putObj_heap_other (by omega)).trans hd5⟩⟩
        rw [World.putObj_heap_same hlt5, hrec]
        rfl
      · intro fr' H'' hI a5 w5 R5
        have c5 := (hre c3 hl3 hd3).chg_back R5.chg
        have hh5 := (hre c3 hl3 hd3).hr_back R5.chg R5.heap
        have hl5 := ((hre c3 hl3 hd3).keep R5.chg hxL).trans hl3
        have hd5 := ((hre c3 hl3 hd3).keep R5.chg hxD).trans hd3
        have hlt5 : w.heap.size + 1 < w5.heap.size := (Array.getElem?_eq_some_iff.1 hl5).1
        refine ⟨_, _, run_endRound (some .ret) hl5, Or.inr ⟨rfl, H'', hI, c5.putObj (hnew _ hxL), hh5.putObj c5 hl5 rfl, ?_, (World.putObj_heap_other (by omega)).trans hd5⟩⟩
        rw [World.putObj_heap_same hlt5, hrec]
        rfl
    · rintro e B ⟨⟨v, rfl⟩, h | h⟩
      · obtain ⟨H', hi, hc, hh, hl, hd⟩ := h
        refine ⟨none, _, by have := run_endLoop (P := P) hl (by rw [hrec]; simp); rw [hrec] at this; exact this, ?_⟩
        have c5 : Chg E.S E.W0 (B.putObj (w.heap.size + 1) (.loop { rec .ready none with state := .exhausted })) := hc.putObj (hnew _ hxL)
        have hd5 : (B.putObj (w.heap.size + 1) (.loop { rec .ready none with state := .exhausted })).heap[w.heap.size]? = some (.deferred (some [])) := (World.putObj_heap_other (by omega)).trans hd
        have R5 : Rep E fr H' a (B.putObj (w.heap.size + 1) (.loop { rec .ready none with state := .exhausted })) := ⟨R.df, R.size, R.fr, c5, hh.putObj hc hl rfl⟩
        have := hend w.heap.size _ (hre1 c5 hd5) hd5 H' hi _ _ (R5.re (hre1 c5 hd5))
        rw [hrec] at this
        simpa [hdf] using this
      · obtain ⟨H', hi, hc, hh, hl, hd⟩ := h
        refine ⟨some .ret, _, by have := run_endLoop (P := P) hl (by rw [hrec]; simp); rw [hrec] at this; exact this, ?_⟩
        have c5 : Chg E.S E.W0 (B.putObj (w.heap.size + 1) (.loop { rec .done (some .ret) with state := .exhausted })) := hc.putObj (hnew _ hxL)
        have hd5 : (B.putObj (w.heap.size + 1) (.loop { rec .done (some .ret) with state := .exhausted })).heap[w.heap.size]? = some (.deferred (some [])) := (World.putObj_heap_other (by omega)).trans hd
        have R5 : Rep E fr H' a (B.putObj (w.heap.size + 1) (.loop { rec .done (some .ret) with state := .exhausted })) := ⟨R.df, R.size, R.fr, c5, hh.putObj hc hl rfl⟩
        have := hret w.heap.size _ (hre1 c5 hd5) hd5 H' hi _ _ (R5.re (hre1 c5 hd5))
        rw [hrec] at this
        refine wpIn_ret ?_
        simpa [hdf] using this
end
end SE
end Go
