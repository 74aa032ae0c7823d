import Derived.Test.YtcjfkmhijfcciaaXT2
import Derived.Test.YtcjfkmhijfcciaaSE4
import Derived.KernelRfl
namespace Go.Proofs.Ytcjfkmhijfcciaa
open Go.SE
theorem en12 : entersB Try.prog 12 = true := by kernel_rfl
theorem en16 : entersB Try.prog 16 = true := by kernel_rfl
theorem en17 : entersB Try.prog 17 = true := by kernel_rfl
theorem en19 : entersB Try.prog 19 = true := by kernel_rfl
theorem en20 : entersB Try.prog 20 = true := by kernel_rfl
theorem en21 : entersB Try.prog 21 = true := by kernel_rfl
theorem ze54 : tze Try.prog 54 = some (.agg (List.replicate 12 (.int .u8 0)).toArray) := by kernel_rfl
end Go.Proofs.Ytcjfkmhijfcciaa

