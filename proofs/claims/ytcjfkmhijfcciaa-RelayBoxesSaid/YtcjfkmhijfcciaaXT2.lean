import Derived.Test.YtcjfkmhijfcciaaXT
import Derived.Test.YtcjfkmhijfcciaaSE4
import Derived.KernelRfl
namespace Go.Proofs.Ytcjfkmhijfcciaa
open Go.SE
theorem en15 : entersB Try.prog 15 = true := by kernel_rfl
theorem en50 : entersB Try.prog 50 = true := by kernel_rfl
theorem en51 : entersB Try.prog 51 = true := by kernel_rfl
theorem en52 : entersB Try.prog 52 = true := by kernel_rfl
theorem en53 : entersB Try.prog 53 = true := by kernel_rfl
theorem en54 : entersB Try.prog 54 = true := by kernel_rfl
theorem en55 : entersB Try.prog 55 = true := by kernel_rfl
theorem en98 : entersB Try.prog 98 = true := by kernel_rfl
theorem en99 : entersB Try.prog 99 = true := by kernel_rfl
theorem en100 : entersB Try.prog 100 = true := by kernel_rfl
theorem en101 : entersB Try.prog 101 = true := by kernel_rfl
theorem pl99 : places Try.prog 99 = some [(0, 5), (5, 5), (10, 5), (15, 5), (20, 5)] := by kernel_rfl
theorem pl141 : places Try.prog 141 = some [(0, 1), (1, 1)] := by kernel_rfl
theorem sz95 : tsz Try.prog 95 = some 5 := by kernel_rfl
theorem sz141 : tsz Try.prog 141 = some 2 := by kernel_rfl
theorem sz142 : tsz Try.prog 142 = some 10 := by kernel_rfl
theorem ze95 : tze Try.prog 95 = some (.agg (List.replicate 5 (.int .u64 0)).toArray) := by kernel_rfl
theorem ze99 : tze Try.prog 99 = some (.agg (List.replicate 25 (.int .u64 0)).toArray) := by kernel_rfl
theorem ze141 : tze Try.prog 141 = some (.agg (List.replicate 2 (.int .u64 0)).toArray) := by kernel_rfl
theorem ze142 : tze Try.prog 142 = some (.agg (List.replicate 10 (.int .u64 0)).toArray) := by kernel_rfl
end Go.Proofs.Ytcjfkmhijfcciaa

