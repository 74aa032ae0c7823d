/- A string turned to bytes; a byte of a string. Generic (no program). -/
import Derived.Test.YtablmdbonibjaaaDoorSE27
namespace Go
namespace SE
open Go.RowKit
set_option linter.unusedVariables false
set_option linter.unusedSimpArgs false
section
variable {P : Program} {E : Env} {fr : Fr} {H : Hp} {o : Oper} {t ty : TypeId} {x y : Operand} {v : Value}
theorem P_index_str {l : List (BitVec 8)} {j : Nat} {k : IntKind} {i : Int} {ix : Operand} (ho : o.op = .index t x ix) (ht : P.underlying t = some .string) (hx : fr.ev x = some (strV l)) (hi : fr.ev ix = some (.int k i)) (hj : i = (j : Int)) (hlt : j < l.length) : PStep P fr o (u8V (l.getD j 0#8)) := by
  intro a ha w; unfold execOp
  subst hj
  have hb : (strB l)[j]? = some (UInt8.ofBitVec (l.getD j 0#8)) := by
    have h1 : j < (strB l).size := by rw [strB_size]; exact hlt
    rw [getElem?_pos (strB l) j h1, List.getD_eq_getElem?_getD, List.getElem?_eq_getElem hlt]
    simp [strB, ByteArray.getElem_eq_getElem_data]
  simp [ho, ha.ev hx, ha.ev hi, Instr.index, run_underlying ht, asIntOf, hb]
end
end SE
end Go

