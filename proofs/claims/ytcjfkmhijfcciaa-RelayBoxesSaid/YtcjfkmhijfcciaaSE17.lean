/- Strings as sources of append; parts of strings. Generic (no program). -/
import Derived.Test.YtcjfkmhijfcciaaSE16
namespace Go
namespace SE
open Go.RowKit
set_option linter.unusedVariables false
set_option linter.unusedSimpArgs false
section
variable {P : Program} {E : Env} {fr : Fr} {H : Hp} {o : Oper} {x y : Operand}
theorem strB_cells (a : List (BitVec 8)) : (strB a).data.toList.map (fun b => Value.int .u8 (b.toNat : Int)) = a.map u8V := by
 unfold strB
 rw [List.map_map]
 apply List.map_congr_left
 intro b _
 rfl
theorem Src.strV {a : List (BitVec 8)} (hy : fr.ev y = some (strV a)) : Src P E fr H 1 y a.length (a.map u8V) := by
 have h := Src.str (P := P) (E := E) (H := H) hy
 rw [strB_size, strB_cells] at h
 exact h
end
end SE
end Go

