import Derived.Test.YtcjfkmhijfcciaaProg
import Derived.Test.YtcjfkmhijfcciaaG1
import Derived.KernelRfl
namespace Go.Proofs.Ytcjfkmhijfcciaa
open Go.SE
theorem by5 : tby Try.prog 5 = some 1 := by kernel_rfl
theorem by66 : tby Try.prog 66 = some 8 := by kernel_rfl
theorem by104 : tby Try.prog 104 = some 4 := by kernel_rfl
theorem en18 : entersB Try.prog 18 = true := by kernel_rfl
theorem en57 : entersB Try.prog 57 = true := by kernel_rfl
theorem en58 : entersB Try.prog 58 = true := by kernel_rfl
theorem en59 : entersB Try.prog 59 = true := by kernel_rfl
theorem en104 : entersB Try.prog 104 = true := by kernel_rfl
theorem en105 : entersB Try.prog 105 = true := by kernel_rfl
theorem en106 : entersB Try.prog 106 = true := by kernel_rfl
theorem en107 : entersB Try.prog 107 = true := by kernel_rfl
theorem en129 : entersB Try.prog 129 = true := by kernel_rfl
theorem en130 : entersB Try.prog 130 = true := by kernel_rfl
theorem en131 : entersB Try.prog 131 = true := by kernel_rfl
theorem en132 : entersB Try.prog 132 = true := by kernel_rfl
theorem en144 : entersB Try.prog 144 = true := by kernel_rfl
theorem sz5 : tsz Try.prog 5 = some 1 := by kernel_rfl
theorem sz22 : tsz Try.prog 22 = some 32 := by kernel_rfl
theorem sz66 : tsz Try.prog 66 = some 1 := by kernel_rfl
theorem sz104 : tsz Try.prog 104 = some 1 := by kernel_rfl
theorem sz105 : tsz Try.prog 105 = some 8 := by kernel_rfl
theorem sz150 : tsz Try.prog 150 = some 64 := by kernel_rfl
theorem ze5 : tze Try.prog 5 = some (Value.int .u8 0) := by kernel_rfl
theorem ze22 : tze Try.prog 22 = some (.agg (List.replicate 32 (Value.int .u8 0)).toArray) := by kernel_rfl
theorem ze66 : tze Try.prog 66 = some (Value.int .u64 0) := by kernel_rfl
theorem ze104 : tze Try.prog 104 = some (Value.int .u32 0) := by kernel_rfl
theorem ze105 : tze Try.prog 105 = some (.agg (List.replicate 8 (Value.int .u32 0)).toArray) := by kernel_rfl
theorem ze150 : tze Try.prog 150 = some (.agg (List.replicate 64 (Value.int .u32 0)).toArray) := by kernel_rfl
end Go.Proofs.Ytcjfkmhijfcciaa

