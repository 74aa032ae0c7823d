/- A string turned to bytes; a byte of a string. Generic (no program). -/
import Derived.Test.YtdingfinclcbgaaSE27
namespace Go
namespace SE
open Go.RowKit
set_option linter.unusedVariables false
set_option linter.unusedSimpArgs false
section
variable {P : Program} {E : Env} {fr : Fr} {H : Hp} {o : Oper} {t ty : TypeId} {x y : Operand} {v : Value}
theorem shape_of {w : World} {b : Nat} {cs : Array Value} {e : TypeId} {fz : Nat × Nat} (h : w.heap[b]? = some (.cells cs e fz)) : w.shape? b = some (e, cs.size) := by
  simp [World.shape?, h]
theorem freeze_at {w : World} {b n : Nat} {cs : Array Value} {e : TypeId} (h : w.heap[b]? = some (.cells cs e (0, 0))) : (w.freeze ⟨b, n, none⟩ 1).heap[b]? = some (.cells cs e (n, n + 1)) := by
  simp [World.freeze, Array.getElem?_modify, h]
theorem S_convSB (d : Option Tmp) (k : Nat) {s dd e : TypeId} {l : List (BitVec 8)} {K : Fr → Hp → Prop} (ho : o.op = .convert s dd x) (hs : P.underlying s = some .string) (hdd : P.underlying dd = some (.slice e)) (he : P.underlying e = some (.int .u8)) (hx : fr.ev x = some (strV l))
    (h : ∀ (A' : Option Addr) (b' c' : Nat), (0 < c' → A' = some ⟨b', 0, none⟩) → l.length ≤ c' → K (fr.put E.n d (.slice A' l.length c')) (H.set k ⟨true, b', 0, e, l.map u8V, c' - l.length⟩)) (hd : o.dst = d := by rfl) : SStep P E false fr H o K := by
  subst hd
  intro a w R
  have hel : (strB l).data.map (fun b => Value.int .u8 (b.toNat : Int)) = (l.map u8V).toArray := by
    apply Array.ext'
    have := strB_cells l
    simpa using this
  have hrun : ∃ c', l.length ≤ c' ∧ (execOp a.eval o).run P w = .ok (.value (.slice (some ⟨w.heap.size, 0, none⟩) l.length c')) ((w.drew.alloc (.cells ((l.map u8V).toArray ++ Array.replicate (c' - l.length) (.int .u8 0)) e)).freeze ⟨w.heap.size, l.length + (c' - l.length), none⟩ 1) := by
    refine ⟨grownCap w l.length 0 e, grownCap_ge _ _ _ _, ?_⟩
    unfold execOp
    have hsh := shape_of (w := w.drew.alloc (.cells ((l.map u8V).toArray ++ Array.replicate (grownCap w l.length 0 e - l.length) (.int .u8 0)) e)) (b := w.heap.size) (cs := (l.map u8V).toArray ++ Array.replicate (grownCap w l.length 0 e - l.length) (.int .u8 0)) (e := e) (fz := (0, 0)) (by
      have := heap_alloc_new w.drew (.cells ((l.map u8V).toArray ++ Array.replicate (grownCap w l.length 0 e - l.length) (.int .u8 0)) e)
      rw [World.size_drew] at this
      exact this)
    rw [show ((l.map u8V).toArray ++ Array.replicate (grownCap w l.length 0 e - l.length) (Value.int .u8 0)).size = l.length + (grownCap w l.length 0 e - l.length) by simp] at hsh
    simp [ho, R.ev hx, convert, run_underlying hs, run_underlying hdd, run_underlying he, Conv.stringToBytes, Question.forced, strB_size, hel, newRow, markStringish, shape, Go.freeze, Sem.run, grownCap] at hsh ⊢
    simp [hsh]
    rfl
  obtain ⟨c', hc', hr⟩ := hrun
  unfold Oper.wp
  rw [hr]
  have hnew := heap_alloc_new w.drew (.cells ((l.map u8V).toArray ++ Array.replicate (c' - l.length) (.int .u8 0)) e)
  rw [World.size_drew] at hnew
  have hb0 : Below w.heap.size w (w.drew.alloc (.cells ((l.map u8V).toArray ++ Array.replicate (c' - l.length) (.int .u8 0)) e)) := (Below.refl _ _).drew.alloc (Nat.le_refl _) _
  have hb : Below w.heap.size w ((w.drew.alloc (.cells ((l.map u8V).toArray ++ Array.replicate (c' - l.length) (.int .u8 0)) e)).freeze ⟨w.heap.size, l.length + (c' - l.length), none⟩ 1) := by
    refine hb0.trans ⟨rfl, rfl, rfl, by simp [World.freeze], fun q hq => ?_⟩
    have hq : w.heap.size ≠ q := by omega
    simp [World.freeze, Array.getElem?_modify, hq]
  refine ⟨fun _ => hb, _, _, h (some ⟨w.heap.size, 0, none⟩) w.heap.size c' (fun _ => rfl) hc', ?_⟩
  have R' := R.put o.dst (.slice (some ⟨w.heap.size, 0, none⟩) l.length c')
  refine ⟨R'.df, R'.size, R'.fr, R.chg.trans (Chg.of_below hb), ?_⟩
  have := R.heap.new R.chg hb k (l.map u8V) (List.replicate (c' - l.length) (.int .u8 0)) e (l.length + (c' - l.length), l.length + (c' - l.length) + 1) (Or.inr (by simp)) w.heap.size (Nat.le_refl _) (by simp [World.freeze]) (by
    rw [freeze_at hnew]
    congr 2
    apply Array.ext'; simp)
  rwa [List.length_replicate] at this
theorem P_index_str {l : List (BitVec 8)} {j : Nat} {k : IntKind} {i : Int} {ix : Operand} (ho : o.op = .index t x ix) (ht : P.underlying t = some .string) (hx : fr.ev x = some (strV l)) (hi : fr.ev ix = some (.int k i)) (hj : i = (j : Int)) (hlt : j < l.length) : PStep P fr o (u8V (l.getD j 0#8)) := by
  intro a ha w; unfold execOp
  subst hj
  have hb : (strB l)[j]? = some (UInt8.ofBitVec (l.getD j 0#8)) := by
    have h1 : j < (strB l).size := by rw [strB_size]; exact hlt
    rw [getElem?_pos (strB l) j h1, List.getD_eq_getElem?_getD, List.getElem?_eq_getElem hlt]
    simp [strB, ByteArray.getElem_eq_getElem_data]
  simp [ho, ha.ev hx, ha.ev hi, Instr.index, run_underlying ht, asIntOf, hb]
end
end SE
end Go
