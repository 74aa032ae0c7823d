import Derived.Test.YtihciioopdalnaaXT2
import Derived.Test.YtihciioopdalnaaG1
import Derived.KernelRfl
namespace Go.Proofs.Ytihciioopdalnaa
open Go.SE
theorem sz22 : tsz Try.prog 22 = some 1 := by kernel_rfl
theorem sz47 : tsz Try.prog 47 = some 3 := by kernel_rfl
theorem ze4 : tze Try.prog 4 = some (Value.bool false) := by kernel_rfl
theorem ze47 : tze Try.prog 47 = some (.agg #[(Value.int .i64 0), (Value.int .i64 0), (Value.int .u8 0)]) := by kernel_rfl
end Go.Proofs.Ytihciioopdalnaa

