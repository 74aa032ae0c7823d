import Derived.Test.YtdkeadfhejkidaaT
import Derived.Test.YtdkeadfhejkidaaSE4
import Derived.KernelRfl
namespace Go.Proofs.Ytdkeadfhejkidaa
open Go.SE
theorem en20 : entersB Try.prog 20 = true := by kernel_rfl
theorem en21 : entersB Try.prog 21 = true := by kernel_rfl
theorem en22 : entersB Try.prog 22 = true := by kernel_rfl
theorem en23 : entersB Try.prog 23 = true := by kernel_rfl
theorem en24 : entersB Try.prog 24 = true := by kernel_rfl
theorem en25 : entersB Try.prog 25 = true := by kernel_rfl
end Go.Proofs.Ytdkeadfhejkidaa
