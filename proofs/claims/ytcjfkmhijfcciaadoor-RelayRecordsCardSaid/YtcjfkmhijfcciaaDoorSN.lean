import Derived.Test.YtcjfkmhijfcciaaDoorSL
import Derived.Test.YtcjfkmhijfcciaaDoorG1
namespace Go.Proofs.YtcjfkmhijfcciaaDoor
set_option maxRecDepth 20000
set_option linter.unusedVariables false
set_option linter.unusedSimpArgs false
open Go.SE Go.RowKit
open Go.ChangeShapes Go.WideShapes Go.ChangeAt Go.ROW
abbrev RowOk (W : World) (r : Row) : Prop := r.own = false ∧ (r.cells ≠ [] → r.b < W.heap.size ∧ ∀ (j : Nat) v, r.cells[j]? = some v → W.cell? ⟨r.b, r.s + j, none⟩ = some v)
def BGN : Enc BG where
 f e := [e.v]
 sz := 1
 pos := by decide
 len _ := rfl
 one e u hu := by
  simp only [List.mem_cons, List.not_mem_nil, or_false] at hu
  subst hu
  rfl
theorem bgn_map (L : List BG) : encs BGN L = L.map BG.v := by
 induction L with
 | nil => rfl
 | cons a L ih => exact congrArg (a.v :: ·) ih
theorem text_of {W : World} {xs : List Value} (h : All2 (FitsE W 1) [(show ROW.Lf 1 from Sum.inr [ROW.lit0 0 (.i .u8)])] xs) : ∃ a : BG, xs = BGN.f a ∧ (a.okR ∧ RowOk W a.vrow) := by
 obtain ⟨v4, rfl, h4⟩ := All2.one h
 obtain ⟨A, c, b, s, l, rfl, hB⟩ := sl_bytes (show SlE W (FitsE W 0) [ROW.lit0 0 (.i .u8)] v4 from h4)
 exact ⟨⟨A, b, c, l, s, l⟩, rfl, ⟨fun h => hB.ad h, hB.1, Nat.le_trans hB.2.1 (by decide)⟩, hB.row (t := 0)⟩
theorem open_texts {H : Type} {enc : TypeId × Value → H} {W : World} {r : Reach} {b0 : Nat} {v : Value} {d : DataW H} {p : List MemPlace} (hval : Value.okWide Tryd.prog W r b0 47 v)
  (hj : DataW.Trod enc Tryd.prog W 0 (fun _ => true) true 47 v d p) (hlt : ∀ x ∈ p, x.block < W.heap.size) :
  ∃ (A : Option Addr) (n c b q : Nat) (L : List BG), v = .slice A n c ∧ L.length = n ∧ (0 < n → A = some ⟨b, q, none⟩) ∧ (∀ e ∈ L, e.okR) ∧ RowOk W ⟨false, b, q, 0, L.map BG.v, 0⟩ ∧ ∀ e ∈ L, RowOk W e.vrow := by
 obtain ⟨A, n, c, rfl, h1, h2, b, q, cs, h3, h4, h5, h6⟩ := ROW.open_slice (n := 1) (g := 9) (es := [(show ROW.Lf 1 from Sum.inr [ROW.lit0 0 (.i .u8)])]) (by kernel_rfl) Tryd.underlying47 hval hj
 obtain ⟨L, rfl, hn, hb⟩ := encs_of BGN (fun a => a.okR ∧ RowOk W a.vrow) n cs h3 (fun i hi => text_of (h6 i hi))
 rw [bgn_map] at h5
 refine ⟨A, n, c, b, q, L, rfl, hn, fun h => (h4 h).1, fun e he => (hb e he).1, ⟨rfl, fun hne => ⟨(h4 ?_).2, h5⟩⟩, fun e he => (hb e he).2⟩
 rcases Nat.eq_zero_or_pos n with h0 | h0
 ·
  subst h0
  have : L = [] := List.eq_nil_of_length_eq_zero hn
  subst this
  exact absurd rfl hne
 · exact h0


end Go.Proofs.YtcjfkmhijfcciaaDoor

