import Derived.Test.YtnhjmapapbhhpaaXT2
import Derived.Test.YtnhjmapapbhhpaaSE4
import Derived.KernelRfl
namespace Go.Proofs.Ytnhjmapapbhhpaa
open Go.SE
theorem en9 : entersB Try.prog 9 = true := by kernel_rfl
end Go.Proofs.Ytnhjmapapbhhpaa
