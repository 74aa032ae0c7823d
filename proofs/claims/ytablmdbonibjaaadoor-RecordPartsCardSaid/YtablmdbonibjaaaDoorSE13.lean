/- math/bits.Add64, which the model stands in for. Generic (no program). -/
import Derived.Test.YtablmdbonibjaaaDoorSE11
import Derived.Laws.Externs
namespace Go
namespace SE
open Go.RowKit
set_option linter.unusedVariables false
set_option linter.unusedSimpArgs false
/-- The carry. -/
def cy (a b c : BitVec 64) : BitVec 64 := BitVec.ofNat 64 ((a.toNat + b.toNat + c.toNat) / 18446744073709551616)
theorem cy_nat {a b c : BitVec 64} (hc : c.toNat ≤ 1) : (cy a b c).toNat = (a.toNat + b.toNat + c.toNat) / 18446744073709551616 := by
  have := a.isLt
  have := b.isLt
  simp [cy]
  omega
theorem cy_le {a b c : BitVec 64} (hc : c.toNat ≤ 1) : (cy a b c).toNat ≤ 1 := by
  have := a.isLt
  have := b.isLt
  rw [cy_nat hc]
  omega
def ExtAdd (P : Program) (f : FuncId) : Prop := ∀ (args : Array Value) (w : World), (callFunc f args).run P w = ((add64Entry args).run P w).andThen fun v w' => .ok (.value v) w'
section
variable {P : Program} {fr : Fr} {o : Oper} {x y z : Operand}
theorem P_add64 {f : FuncId} {a b c : BitVec 64} {tys : Array TypeId} (he : ExtAdd P f) (ho : o.op = .call ⟨.value (.func f), #[x, y, z], tys⟩) (hx : fr.ev x = some (.int .u64 (a.toNat : Int))) (hy : fr.ev y = some (.int .u64 (b.toNat : Int))) (hz : fr.ev z = some (.int .u64 (c.toNat : Int))) (hc : c.toNat ≤ 1) :
    PStep P fr o (.tuple #[.int .u64 ((a + b + c).toNat : Int), .int .u64 ((cy a b c).toNat : Int)]) := by
  intro A hA w
  have h1 := he #[.int .u64 (a.toNat : Int), .int .u64 (b.toNat : Int), .int .u64 (c.toNat : Int)] w
  rw [run_add64 (a.toNat : Int) (b.toNat : Int) (c.toNat : Int) (by omega) (by omega) (by omega) (by omega)] at h1
  have e1 : ((a.toNat : Int) + (b.toNat : Int) + (c.toNat : Int)) % 18446744073709551616 = ((a + b + c).toNat : Int) := by
    rw [BitVec.toNat_add, BitVec.toNat_add]
    omega
  have e2 : ((a.toNat : Int) + (b.toNat : Int) + (c.toNat : Int)) / 18446744073709551616 = ((cy a b c).toNat : Int) := by
    rw [cy_nat hc]
    omega
  rw [e1, e2, Result.andThen_ok] at h1
  unfold execOp
  have hf : A.eval (.func f) = .func (.func f) #[] #[] := rfl
  simp [ho, resolve, hf, hA.ev hx, hA.ev hy, hA.ev hz, Deferred.ofValue, invoke, h1, -BitVec.toNat_add]
end
end SE
end Go
