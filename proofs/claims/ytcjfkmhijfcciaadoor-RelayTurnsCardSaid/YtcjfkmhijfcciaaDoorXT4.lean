import Derived.Test.YtcjfkmhijfcciaaDoorXT3
import Derived.Test.YtcjfkmhijfcciaaDoorSE4
import Derived.KernelRfl
namespace Go.Proofs.YtcjfkmhijfcciaaDoor
open Go.SE
theorem en6 : entersB Tryd.prog 6 = true := by kernel_rfl
theorem en7 : entersB Tryd.prog 7 = true := by kernel_rfl
theorem en8 : entersB Tryd.prog 8 = true := by kernel_rfl
theorem en9 : entersB Tryd.prog 9 = true := by kernel_rfl
theorem en10 : entersB Tryd.prog 10 = true := by kernel_rfl
theorem en11 : entersB Tryd.prog 11 = true := by kernel_rfl
theorem en12 : entersB Tryd.prog 12 = true := by kernel_rfl
theorem en13 : entersB Tryd.prog 13 = true := by kernel_rfl
theorem en14 : entersB Tryd.prog 14 = true := by kernel_rfl
theorem en15 : entersB Tryd.prog 15 = true := by kernel_rfl
end Go.Proofs.YtcjfkmhijfcciaaDoor
