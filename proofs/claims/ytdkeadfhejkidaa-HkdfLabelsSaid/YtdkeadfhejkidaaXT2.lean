import Derived.Test.YtdkeadfhejkidaaXT
import Derived.Test.YtdkeadfhejkidaaSE4
import Derived.KernelRfl
namespace Go.Proofs.Ytdkeadfhejkidaa
open Go.SE
theorem en24 : entersB Try.prog 24 = true := by kernel_rfl
theorem en25 : entersB Try.prog 25 = true := by kernel_rfl
theorem sz9 : tsz Try.prog 9 = some 1 := by kernel_rfl
end Go.Proofs.Ytdkeadfhejkidaa
