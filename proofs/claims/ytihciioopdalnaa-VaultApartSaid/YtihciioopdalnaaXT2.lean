import Derived.Test.YtihciioopdalnaaXT
import Derived.Test.YtihciioopdalnaaSE4
import Derived.KernelRfl
namespace Go.Proofs.Ytihciioopdalnaa
open Go.SE
theorem en43 : entersB Try.prog 43 = true := by kernel_rfl
theorem en44 : entersB Try.prog 44 = true := by kernel_rfl
theorem en45 : entersB Try.prog 45 = true := by kernel_rfl
theorem en46 : entersB Try.prog 46 = true := by kernel_rfl
theorem en47 : entersB Try.prog 47 = true := by kernel_rfl
theorem en48 : entersB Try.prog 48 = true := by kernel_rfl
theorem en49 : entersB Try.prog 49 = true := by kernel_rfl
theorem en66 : entersB Try.prog 66 = true := by kernel_rfl
theorem en67 : entersB Try.prog 67 = true := by kernel_rfl
theorem en68 : entersB Try.prog 68 = true := by kernel_rfl
theorem en69 : entersB Try.prog 69 = true := by kernel_rfl
theorem en70 : entersB Try.prog 70 = true := by kernel_rfl
theorem en71 : entersB Try.prog 71 = true := by kernel_rfl
theorem en72 : entersB Try.prog 72 = true := by kernel_rfl
theorem en73 : entersB Try.prog 73 = true := by kernel_rfl
theorem en74 : entersB Try.prog 74 = true := by kernel_rfl
theorem en91 : entersB Try.prog 91 = true := by kernel_rfl
theorem en97 : entersB Try.prog 97 = true := by kernel_rfl
theorem en98 : entersB Try.prog 98 = true := by kernel_rfl
theorem en100 : entersB Try.prog 100 = true := by kernel_rfl
theorem pl75 : places Try.prog 75 = some [(0, 1), (1, 1), (2, 1)] := by kernel_rfl
theorem pl78 : places Try.prog 78 = some [(0, 1), (1, 1), (2, 1)] := by kernel_rfl
theorem pl146 : places Try.prog 146 = some [(0, 1), (1, 1)] := by kernel_rfl
theorem sz22 : tsz Try.prog 22 = some 1 := by kernel_rfl
theorem sz50 : tsz Try.prog 50 = some 1 := by kernel_rfl
theorem sz75 : tsz Try.prog 75 = some 3 := by kernel_rfl
theorem sz78 : tsz Try.prog 78 = some 3 := by kernel_rfl
theorem ze75 : tze Try.prog 75 = some (.agg (List.replicate 3 (.int .i64 0)).toArray) := by kernel_rfl
theorem ze78 : tze Try.prog 78 = some (.agg (List.replicate 3 (.int .i64 0)).toArray) := by kernel_rfl
theorem ze107 : tze Try.prog 107 = some (.agg (List.replicate 12 (.int .u8 0)).toArray) := by kernel_rfl
theorem ze146 : tze Try.prog 146 = some (.agg #[(.slice none 0 0), (.int .i64 0)]) := by kernel_rfl
end Go.Proofs.Ytihciioopdalnaa
