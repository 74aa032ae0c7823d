import Derived.Test.YtablmdbonibjaaaDoorXT
import Derived.Test.YtablmdbonibjaaaDoorSE4
import Derived.KernelRfl
namespace Go.Proofs.YtablmdbonibjaaaDoor
open Go.SE
theorem by29 : tby Tryd.prog 29 = some 24 := by kernel_rfl
theorem en9 : entersB Tryd.prog 9 = true := by kernel_rfl
theorem en12 : entersB Tryd.prog 12 = true := by kernel_rfl
theorem en14 : entersB Tryd.prog 14 = true := by kernel_rfl
theorem en15 : entersB Tryd.prog 15 = true := by kernel_rfl
theorem en17 : entersB Tryd.prog 17 = true := by kernel_rfl
theorem en18 : entersB Tryd.prog 18 = true := by kernel_rfl
theorem en19 : entersB Tryd.prog 19 = true := by kernel_rfl
theorem en20 : entersB Tryd.prog 20 = true := by kernel_rfl
theorem en25 : entersB Tryd.prog 25 = true := by kernel_rfl
theorem en26 : entersB Tryd.prog 26 = true := by kernel_rfl
theorem en27 : entersB Tryd.prog 27 = true := by kernel_rfl
theorem en28 : entersB Tryd.prog 28 = true := by kernel_rfl
theorem en29 : entersB Tryd.prog 29 = true := by kernel_rfl
theorem en30 : entersB Tryd.prog 30 = true := by kernel_rfl
theorem en31 : entersB Tryd.prog 31 = true := by kernel_rfl
theorem en32 : entersB Tryd.prog 32 = true := by kernel_rfl
theorem en33 : entersB Tryd.prog 33 = true := by kernel_rfl
theorem en34 : entersB Tryd.prog 34 = true := by kernel_rfl
theorem en37 : entersB Tryd.prog 37 = true := by kernel_rfl
theorem en38 : entersB Tryd.prog 38 = true := by kernel_rfl
theorem en43 : entersB Tryd.prog 43 = true := by kernel_rfl
theorem sz25 : tsz Tryd.prog 25 = some 44 := by kernel_rfl
theorem sz29 : tsz Tryd.prog 29 = some 1 := by kernel_rfl
theorem sz33 : tsz Tryd.prog 33 = some 44 := by kernel_rfl
theorem sz58 : tsz Tryd.prog 58 = some 1 := by kernel_rfl
theorem ze23 : tze Tryd.prog 23 = some (.agg (List.replicate 12 (.int .u8 0)).toArray) := by kernel_rfl
theorem ze25 : tze Tryd.prog 25 = some (.agg (List.replicate 44 (.int .u8 0)).toArray) := by kernel_rfl
theorem ze29 : tze Tryd.prog 29 = some (.slice none 0 0) := by kernel_rfl
theorem ze33 : tze Tryd.prog 33 = some (.agg (List.replicate 44 (.int .u8 0)).toArray) := by kernel_rfl
theorem ze58 : tze Tryd.prog 58 = some (.slice none 0 0) := by kernel_rfl
end Go.Proofs.YtablmdbonibjaaaDoor
