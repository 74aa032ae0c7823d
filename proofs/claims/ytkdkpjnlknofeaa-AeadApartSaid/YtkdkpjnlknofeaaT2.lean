import Derived.Test.YtkdkpjnlknofeaaT
import Derived.Test.YtkdkpjnlknofeaaSE4
import Derived.KernelRfl
namespace Go.Proofs.Ytkdkpjnlknofeaa
open Go.SE
theorem en20 : entersB Try.prog 20 = true := by kernel_rfl
theorem en21 : entersB Try.prog 21 = true := by kernel_rfl
theorem en22 : entersB Try.prog 22 = true := by kernel_rfl
theorem en34 : entersB Try.prog 34 = true := by kernel_rfl
theorem en35 : entersB Try.prog 35 = true := by kernel_rfl
theorem en36 : entersB Try.prog 36 = true := by kernel_rfl
theorem en37 : entersB Try.prog 37 = true := by kernel_rfl
theorem en38 : entersB Try.prog 38 = true := by kernel_rfl
theorem en39 : entersB Try.prog 39 = true := by kernel_rfl
theorem en47 : entersB Try.prog 47 = true := by kernel_rfl
theorem en48 : entersB Try.prog 48 = true := by kernel_rfl
theorem en49 : entersB Try.prog 49 = true := by kernel_rfl
theorem sz36 : tsz Try.prog 36 = some 16 := by kernel_rfl
theorem sz70 : tsz Try.prog 70 = some 3 := by kernel_rfl
theorem sz76 : tsz Try.prog 76 = some 17 := by kernel_rfl
theorem sz77 : tsz Try.prog 77 = some 40 := by kernel_rfl
theorem ze36 : tze Try.prog 36 = some (.agg (List.replicate 16 (.int .u8 0)).toArray) := by kernel_rfl
theorem ze70 : tze Try.prog 70 = some (.agg (List.replicate 3 (.int .u64 0)).toArray) := by kernel_rfl
theorem ze75 : tze Try.prog 75 = some (.agg (List.replicate 16 (.int .i64 0)).toArray) := by kernel_rfl
theorem ze76 : tze Try.prog 76 = some (.agg (List.replicate 17 (.int .i64 0)).toArray) := by kernel_rfl
theorem ze77 : tze Try.prog 77 = some (.agg (List.replicate 40 (.int .i64 0)).toArray) := by kernel_rfl
end Go.Proofs.Ytkdkpjnlknofeaa
