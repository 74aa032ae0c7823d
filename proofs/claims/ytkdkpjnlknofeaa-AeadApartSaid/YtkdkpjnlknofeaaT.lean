import Derived.Test.YtkdkpjnlknofeaaProg
import Derived.Test.YtkdkpjnlknofeaaSE4
import Derived.KernelRfl
namespace Go.Proofs.Ytkdkpjnlknofeaa
open Go.SE
theorem by5 : tby Try.prog 5 = some 1 := by kernel_rfl
theorem by23 : tby Try.prog 23 = some 4 := by kernel_rfl
theorem en15 : entersB Try.prog 15 = true := by kernel_rfl
theorem en16 : entersB Try.prog 16 = true := by kernel_rfl
theorem en17 : entersB Try.prog 17 = true := by kernel_rfl
theorem en18 : entersB Try.prog 18 = true := by kernel_rfl
theorem en19 : entersB Try.prog 19 = true := by kernel_rfl
theorem en28 : entersB Try.prog 28 = true := by kernel_rfl
theorem en29 : entersB Try.prog 29 = true := by kernel_rfl
theorem en30 : entersB Try.prog 30 = true := by kernel_rfl
theorem en31 : entersB Try.prog 31 = true := by kernel_rfl
theorem en32 : entersB Try.prog 32 = true := by kernel_rfl
theorem en33 : entersB Try.prog 33 = true := by kernel_rfl
theorem en43 : entersB Try.prog 43 = true := by kernel_rfl
theorem en44 : entersB Try.prog 44 = true := by kernel_rfl
theorem en45 : entersB Try.prog 45 = true := by kernel_rfl
theorem en52 : entersB Try.prog 52 = true := by kernel_rfl
theorem sz3 : tsz Try.prog 3 = some 1 := by kernel_rfl
theorem sz5 : tsz Try.prog 5 = some 1 := by kernel_rfl
theorem sz22 : tsz Try.prog 22 = some 32 := by kernel_rfl
theorem sz23 : tsz Try.prog 23 = some 1 := by kernel_rfl
theorem sz24 : tsz Try.prog 24 = some 12 := by kernel_rfl
theorem sz26 : tsz Try.prog 26 = some 64 := by kernel_rfl
theorem sz29 : tsz Try.prog 29 = some 1 := by kernel_rfl
theorem sz56 : tsz Try.prog 56 = some 16 := by kernel_rfl
theorem sz57 : tsz Try.prog 57 = some 1 := by kernel_rfl
theorem sz60 : tsz Try.prog 60 = some 16 := by kernel_rfl
theorem sz83 : tsz Try.prog 83 = some 4 := by kernel_rfl
theorem ze5 : tze Try.prog 5 = some (.int .u8 0) := by kernel_rfl
theorem ze22 : tze Try.prog 22 = some (.agg (List.replicate 32 (.int .u8 0)).toArray) := by kernel_rfl
theorem ze23 : tze Try.prog 23 = some (.int .u32 0) := by kernel_rfl
theorem ze24 : tze Try.prog 24 = some (.agg (List.replicate 12 (.int .u8 0)).toArray) := by kernel_rfl
theorem ze26 : tze Try.prog 26 = some (.agg (List.replicate 64 (.int .u8 0)).toArray) := by kernel_rfl
theorem ze56 : tze Try.prog 56 = some (.agg (List.replicate 16 (.int .u32 0)).toArray) := by kernel_rfl
theorem ze57 : tze Try.prog 57 = some (.slice none 0 0) := by kernel_rfl
theorem ze60 : tze Try.prog 60 = some (.agg (List.replicate 16 (.int .u64 0)).toArray) := by kernel_rfl
theorem ze62 : tze Try.prog 62 = some (.agg (List.replicate 4 (.int .i64 0)).toArray) := by kernel_rfl
theorem ze83 : tze Try.prog 83 = some (.agg (List.replicate 4 (.int .u64 0)).toArray) := by kernel_rfl
end Go.Proofs.Ytkdkpjnlknofeaa
