import Derived.Test.YtdingfinclcbgaaDA3
import Derived.Test.YtdingfinclcbgaaSE12
import Derived.Test.YtdingfinclcbgaaSE21
import Derived.Test.YtdingfinclcbgaaSE23
namespace Go.Proofs.Ytdingfinclcbgaa
set_option maxRecDepth 20000
set_option linter.unusedVariables false
set_option linter.unusedSimpArgs false
open Go.SE Go.RowKit
open Go.ChangeShapes Go.WideShapes Go.ChangeAt Go.ROW
theorem int_of64 {z : Int} (h : (Lit.int .i64 z).wf = true) : -9223372036854775808 ≤ z ∧ z ≤ 9223372036854775807 := by
 simp only [Lit.wf, Bool.and_eq_true, decide_eq_true_eq] at h
 simp [IntKind.min, IntKind.max, IntKind.signed, IntKind.bits] at h
 omega
abbrev RowOk (W : World) (r : Row) : Prop := r.own = false ∧ (r.cells ≠ [] → r.b < W.heap.size ∧ ∀ (j : Nat) v, r.cells[j]? = some v → W.cell? ⟨r.b, r.s + j, none⟩ = some v)
def ActF : List (ROW.Lf 1) := [ROW.lit0 1 (.i .i64), ROW.lit0 1 (.i .i64), ROW.lit0 1 (.i .i64), (show ROW.Lf 1 from Sum.inr [ROW.lit0 0 (.i .u8)])]
theorem act_of {W : World} {xs : List Value} (h : All2 (FitsE W 1) ActF xs) : ∃ a : ActE, xs = ActN.f a ∧ (a.ok ∧ RowOk W a.B.vrow) := by
 obtain ⟨v1, x1, rfl, h1, h⟩ := All2.cons' h
 obtain ⟨v2, x2, rfl, h2, h⟩ := All2.cons' h
 obtain ⟨v3, x3, rfl, h3, h⟩ := All2.cons' h
 obtain ⟨v4, rfl, h4⟩ := All2.one h
 obtain ⟨z1, rfl, g1⟩ := fits_int h1
 obtain ⟨z2, rfl, g2⟩ := fits_int h2
 obtain ⟨z3, rfl, g3⟩ := fits_int h3
 obtain ⟨A, c, b, s, l, rfl, hB⟩ := sl_bytes (show SlE W (FitsE W 0) [ROW.lit0 0 (.i .u8)] v4 from h4)
 refine ⟨⟨z1, z2, z3, ⟨A, b, c, l, s, l⟩⟩, rfl, ⟨int_of64 g1, int_of64 g2, int_of64 g3, fun h => hB.ad h, hB.1, Nat.le_trans hB.2.1 (by decide)⟩, ?_⟩
 exact hB.row (t := 0)
theorem open_acts {H : Type} {enc : TypeId × Value → H} {W : World} {r : Reach} {b0 : Nat} {v : Value} {d : DataW H} {p : List MemPlace} (hval : Value.okWide Try.prog W r b0 35 v)
  (hj : DataW.Trod enc Try.prog W 0 (fun _ => true) true 35 v d p) (hlt : ∀ x ∈ p, x.block < W.heap.size) :
  ∃ (A : Option Addr) (n c b q : Nat) (L : List ActE), v = .slice A n c ∧ L.length = n ∧ (0 < n → A = some ⟨b, q, none⟩) ∧ (∀ e ∈ L, e.ok) ∧ RowOk W ⟨false, b, q, 0, encs ActN L, 0⟩ ∧ ∀ e ∈ L, RowOk W e.B.vrow := by
 obtain ⟨A, n, c, rfl, h1, h2, b, q, cs, h3, h4, h5, h6⟩ := ROW.open_slice (n := 1) (g := 9) (es := ActF) (by kernel_rfl) Try.underlying35 hval hj
 obtain ⟨L, rfl, hn, hb⟩ := encs_of ActN (fun a => a.ok ∧ RowOk W a.B.vrow) n cs h3 (fun i hi => act_of (h6 i hi))
 refine ⟨A, n, c, b, q, L, rfl, hn, fun h => (h4 h).1, fun e he => (hb e he).1, ⟨rfl, fun hne => ⟨(h4 ?_).2, h5⟩⟩, fun e he => (hb e he).2⟩
 rcases Nat.eq_zero_or_pos n with h0 | h0
 ·
  subst h0
  have : L = [] := List.eq_nil_of_length_eq_zero hn
  subst this
  exact absurd rfl hne
 · exact h0


end Go.Proofs.Ytdingfinclcbgaa
