import Derived.Test.YtdingfinclcbgaaJN7
import Derived.Test.YtdingfinclcbgaaG1
namespace Go.Proofs.Ytdingfinclcbgaa
set_option maxRecDepth 20000
set_option linter.unusedVariables false
set_option linter.unusedSimpArgs false
open Go.SE Go.RowKit
/-- What a disk's area holds: entries of one sector each, noughts behind them. -/
def StoredL (S : List (BitVec 8)) (n ar : Nat) (gen : BitVec 64) (L : List (List (BitVec 8))) : Prop :=
 L.length ≤ (n - 2) / 2 ∧ (∀ i, i < L.length → secs S (fstS n ar + i) = secB gen i (L.getD i []) ∧ 1 ≤ (L.getD i []).length ∧ (L.getD i []).length ≤ 14) ∧
  ∀ i, L.length ≤ i → i < (n - 2) / 2 → secs S (fstS n ar + i) = List.replicate 64 0#8
theorem c_readU {bD bS cD nD rD : Nat} {S : List (BitVec 8)} {wr : Int} {bJ ar : Nat} {gen : BitVec 64} {Aj : Option Addr} {nj cj : Nat} {L : List (List (BitVec 8))} (hSl : S.length = nD * 64) (hn : nD ≤ 512) (hc : nD ≤ cD) (hw : 0 ≤ wr) (hw2 : wr ≤ 4611686018427380000) (h4 : 4 ≤ nD) (har : ar ≤ 1)
  (hL : StoredL S nD ar gen L) (hu : nj ≤ L.length) :
  Con Try.prog 50 [ptr bJ 0] [dH false bD bS cD nD wr, rowS false bS S rD, ⟨false, bJ, 0, 82, [ptr bD 0, u64V gen, iV (ar : Int), .slice Aj nj cj, iV (nj : Int), .bool false], 0⟩]
   (fun v rs => ∃ x : BG, x.ok ∧ x.l = L.getD nj [] ∧ (nj = L.length → x.A = none) ∧ (nj < L.length → 1 ≤ x.l.length ∧ x.l.length ≤ 14 ∧ x.A = some ⟨x.b, x.q, none⟩) ∧ v = .tuple #[x.v, iV 0] ∧ rs = [x.row 5]) := by
 obtain ⟨h1, h2, h3⟩ := hL
 have nilc : nj = L.length → ∀ (v : Value) (rs : List Row), (v = .tuple #[.slice none 0 0, iV 0] ∧ rs = []) → rs = [] ∧ ∃ x : BG, x.ok ∧ x.l = L.getD nj [] ∧ (nj = L.length → x.A = none) ∧ (nj < L.length → 1 ≤ x.l.length ∧ x.l.length ≤ 14 ∧ x.A = some ⟨x.b, x.q, none⟩) ∧ v = .tuple #[x.v, iV 0] ∧ [(⟨true, 0, 0, 5, [], 0⟩ : Row)] = [x.row 5] := by
  rintro hj v rs ⟨rfl, rfl⟩
  refine ⟨rfl, default, ⟨fun h => absurd h (Nat.lt_irrefl 0), Nat.le_refl _, rfl, Nat.le_refl _⟩, ?_, fun _ => rfl, fun h => absurd h (by omega), rfl, rfl⟩
  rw [List.getD_eq_getElem?_getD, List.getElem?_eq_none (by omega)]
  rfl
 rcases Nat.lt_or_ge nj L.length with hlt | hge
 ·
  obtain ⟨g1, g2, g3⟩ := h2 nj hlt
  refine (c_readE (rD := rD) (Aj := Aj) (cj := cj) hSl hn hc hw hw2 h4 har (by omega) g1 g2 g3).mono ?_
  rintro _ _ ⟨b', c', hc', rfl, rfl⟩
  have hs : (secB gen nj (L.getD nj [])).length = 64 := secB_len (by omega)
  refine ⟨⟨some ⟨b', 18, none⟩, b', c' - 18, L.getD nj [], 18, secB gen nj (L.getD nj [])⟩, ⟨fun _ => rfl, by show (L.getD nj []).length ≤ c' - 18; omega, sec_txt, by show 18 + (L.getD nj []).length ≤ (secB gen nj (L.getD nj [])).length; omega⟩, rfl, fun h => absurd h (by omega), fun _ => ⟨g2, g3, rfl⟩, rfl, ?_⟩
  show [_] = [Row.mk _ _ _ _ _ (c' - 18 + 18 - _)]
  rw [show c' - 18 + 18 = c' by omega]
 ·
  have hj : nj = L.length := by omega
  rcases Nat.lt_or_ge nj ((nD - 2) / 2) with hs | hs
  · exact Con.add0 0 5 (c_readN (rD := rD) (Aj := Aj) (cj := cj) hSl hn hc hw hw2 h4 har hs (h3 nj hge hs)) (nilc hj)
  · exact Con.add0 0 5 (c_readF (rD := rD) (Aj := Aj) (cj := cj) hSl hn hc hw hw2 h4 har (by omega)) (nilc hj)


end Go.Proofs.Ytdingfinclcbgaa

