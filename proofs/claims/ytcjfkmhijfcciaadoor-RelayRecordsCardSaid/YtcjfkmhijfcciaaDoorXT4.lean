import Derived.Test.YtcjfkmhijfcciaaDoorXT3
import Derived.Test.YtcjfkmhijfcciaaDoorG1
import Derived.KernelRfl
namespace Go.Proofs.YtcjfkmhijfcciaaDoor
open Go.SE
theorem by36 : tby Tryd.prog 36 = some 24 := by kernel_rfl
theorem en9 : entersB Tryd.prog 9 = true := by kernel_rfl
theorem en10 : entersB Tryd.prog 10 = true := by kernel_rfl
theorem en11 : entersB Tryd.prog 11 = true := by kernel_rfl
theorem en12 : entersB Tryd.prog 12 = true := by kernel_rfl
theorem en13 : entersB Tryd.prog 13 = true := by kernel_rfl
theorem en14 : entersB Tryd.prog 14 = true := by kernel_rfl
theorem en15 : entersB Tryd.prog 15 = true := by kernel_rfl
theorem en16 : entersB Tryd.prog 16 = true := by kernel_rfl
theorem en17 : entersB Tryd.prog 17 = true := by kernel_rfl
theorem en18 : entersB Tryd.prog 18 = true := by kernel_rfl
theorem en19 : entersB Tryd.prog 19 = true := by kernel_rfl
theorem ze36 : tze Tryd.prog 36 = some (Value.slice none 0 0) := by kernel_rfl
end Go.Proofs.YtcjfkmhijfcciaaDoor

