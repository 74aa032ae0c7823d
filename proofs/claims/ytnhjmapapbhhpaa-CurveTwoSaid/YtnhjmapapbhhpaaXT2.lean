import Derived.Test.YtnhjmapapbhhpaaXT
import Derived.Test.YtnhjmapapbhhpaaSE4
import Derived.KernelRfl
namespace Go.Proofs.Ytnhjmapapbhhpaa
open Go.SE
theorem en18 : entersB Try.prog 18 = true := by kernel_rfl
theorem en19 : entersB Try.prog 19 = true := by kernel_rfl
theorem en20 : entersB Try.prog 20 = true := by kernel_rfl
theorem en21 : entersB Try.prog 21 = true := by kernel_rfl
theorem en22 : entersB Try.prog 22 = true := by kernel_rfl
theorem en23 : entersB Try.prog 23 = true := by kernel_rfl
theorem en29 : entersB Try.prog 29 = true := by kernel_rfl
theorem sz2 : tsz Try.prog 2 = some 1 := by kernel_rfl
theorem sz44 : tsz Try.prog 44 = some 16 := by kernel_rfl
theorem ze44 : tze Try.prog 44 = some (.agg (List.replicate 16 (.int .i64 0)).toArray) := by kernel_rfl
theorem ze56 : tze Try.prog 56 = some (.agg (List.replicate 31 (.int .i64 0)).toArray) := by kernel_rfl
end Go.Proofs.Ytnhjmapapbhhpaa
