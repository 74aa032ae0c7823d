import Derived.Test.YtcjfkmhijfcciaaDoorXT
import Derived.Test.YtcjfkmhijfcciaaDoorG1
import Derived.KernelRfl
namespace Go.Proofs.YtcjfkmhijfcciaaDoor
open Go.SE
theorem en21 : entersB Tryd.prog 21 = true := by kernel_rfl
theorem en22 : entersB Tryd.prog 22 = true := by kernel_rfl
theorem en23 : entersB Tryd.prog 23 = true := by kernel_rfl
theorem en24 : entersB Tryd.prog 24 = true := by kernel_rfl
theorem en25 : entersB Tryd.prog 25 = true := by kernel_rfl
theorem en26 : entersB Tryd.prog 26 = true := by kernel_rfl
theorem en27 : entersB Tryd.prog 27 = true := by kernel_rfl
theorem en28 : entersB Tryd.prog 28 = true := by kernel_rfl
theorem en36 : entersB Tryd.prog 36 = true := by kernel_rfl
theorem sz41 : tsz Tryd.prog 41 = some 44 := by kernel_rfl
theorem ze39 : tze Tryd.prog 39 = some (.agg (List.replicate 12 (Value.int .u8 0)).toArray) := by kernel_rfl
theorem ze41 : tze Tryd.prog 41 = some (.agg (List.replicate 44 (Value.int .u8 0)).toArray) := by kernel_rfl
end Go.Proofs.YtcjfkmhijfcciaaDoor

