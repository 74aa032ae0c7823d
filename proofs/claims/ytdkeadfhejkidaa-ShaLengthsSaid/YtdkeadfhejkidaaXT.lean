import Derived.Test.YtdkeadfhejkidaaProg
import Derived.Test.YtdkeadfhejkidaaSE4
import Derived.KernelRfl
namespace Go.Proofs.Ytdkeadfhejkidaa
open Go.SE
theorem by5 : tby Try.prog 5 = some 1 := by kernel_rfl
theorem by23 : tby Try.prog 23 = some 8 := by kernel_rfl
theorem by44 : tby Try.prog 44 = some 4 := by kernel_rfl
theorem en14 : entersB Try.prog 14 = true := by kernel_rfl
theorem en15 : entersB Try.prog 15 = true := by kernel_rfl
theorem en16 : entersB Try.prog 16 = true := by kernel_rfl
theorem en17 : entersB Try.prog 17 = true := by kernel_rfl
theorem en18 : entersB Try.prog 18 = true := by kernel_rfl
theorem en19 : entersB Try.prog 19 = true := by kernel_rfl
theorem en26 : entersB Try.prog 26 = true := by kernel_rfl
theorem en27 : entersB Try.prog 27 = true := by kernel_rfl
theorem en28 : entersB Try.prog 28 = true := by kernel_rfl
theorem en29 : entersB Try.prog 29 = true := by kernel_rfl
theorem en30 : entersB Try.prog 30 = true := by kernel_rfl
theorem en31 : entersB Try.prog 31 = true := by kernel_rfl
theorem en32 : entersB Try.prog 32 = true := by kernel_rfl
theorem en33 : entersB Try.prog 33 = true := by kernel_rfl
theorem en34 : entersB Try.prog 34 = true := by kernel_rfl
theorem en35 : entersB Try.prog 35 = true := by kernel_rfl
theorem en36 : entersB Try.prog 36 = true := by kernel_rfl
theorem en37 : entersB Try.prog 37 = true := by kernel_rfl
theorem en38 : entersB Try.prog 38 = true := by kernel_rfl
theorem en39 : entersB Try.prog 39 = true := by kernel_rfl
theorem en40 : entersB Try.prog 40 = true := by kernel_rfl
theorem en41 : entersB Try.prog 41 = true := by kernel_rfl
theorem sz5 : tsz Try.prog 5 = some 1 := by kernel_rfl
theorem sz23 : tsz Try.prog 23 = some 1 := by kernel_rfl
theorem sz25 : tsz Try.prog 25 = some 32 := by kernel_rfl
theorem sz44 : tsz Try.prog 44 = some 1 := by kernel_rfl
theorem sz45 : tsz Try.prog 45 = some 8 := by kernel_rfl
theorem sz50 : tsz Try.prog 50 = some 64 := by kernel_rfl
theorem ze5 : tze Try.prog 5 = some (.int .u8 0) := by kernel_rfl
theorem ze23 : tze Try.prog 23 = some (.int .u64 0) := by kernel_rfl
theorem ze25 : tze Try.prog 25 = some (.agg (List.replicate 32 (.int .u8 0)).toArray) := by kernel_rfl
theorem ze44 : tze Try.prog 44 = some (.int .u32 0) := by kernel_rfl
theorem ze45 : tze Try.prog 45 = some (.agg (List.replicate 8 (.int .u32 0)).toArray) := by kernel_rfl
theorem ze50 : tze Try.prog 50 = some (.agg (List.replicate 64 (.int .u32 0)).toArray) := by kernel_rfl
end Go.Proofs.Ytdkeadfhejkidaa
