/- Strings as sources of append; parts of strings. Generic (no program). -/
import Derived.Test.YtdingfinclcbgaaSE16
namespace Go
namespace SE
open Go.RowKit
set_option linter.unusedVariables false
set_option linter.unusedSimpArgs false
section
variable {P : Program} {E : Env} {fr : Fr} {H : Hp} {o : Oper} {x y : Operand}
theorem strB_cells (a : List (BitVec 8)) : (strB a).data.toList.map (fun b => Value.int .u8 (b.toNat : Int)) = a.map u8V := by
  unfold strB
  rw [List.map_map]
  apply List.map_congr_left
  intro b _
  rfl
theorem Src.strV {a : List (BitVec 8)} (hy : fr.ev y = some (strV a)) : Src P E fr H 1 y a.length (a.map u8V) := by
  have h := Src.str (P := P) (E := E) (H := H) hy
  rw [strB_size, strB_cells] at h
  exact h
theorem P_slice_strV {t : TypeId} {hi : Option Operand} {a : List (BitVec 8)} {h : Nat} (ho : o.op = .slice t x none hi none) (ht : P.underlying t = some .string) (hx : fr.ev x = some (strV a)) (hh : Bd fr hi a.length h) (h2 : h ≤ a.length) :
    PStep P fr o (strV (a.take h)) := by
  have e : strB (a.take h) = (strB a).extract 0 h := by
    unfold strB
    apply ByteArray.ext
    rw [ByteArray.data_extract]
    apply Array.ext'
    simp [List.map_take, Array.toList_extract]
  have := P_slice_str (P := P) (l := 0) (h := h) ho ht hx rfl (by rw [strB_size]; exact hh) (Nat.zero_le _) (by rw [strB_size]; exact h2)
  rwa [← e] at this
end
end SE
end Go
