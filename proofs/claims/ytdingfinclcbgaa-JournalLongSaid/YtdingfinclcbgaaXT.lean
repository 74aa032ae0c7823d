import Derived.Test.YtdingfinclcbgaaProg
import Derived.Test.YtdingfinclcbgaaG1
import Derived.KernelRfl
namespace Go.Proofs.Ytdingfinclcbgaa
open Go.SE
theorem by5 : tby Try.prog 5 = some 1 := by kernel_rfl
theorem by22 : tby Try.prog 22 = some 8 := by kernel_rfl
theorem by99 : tby Try.prog 99 = some 4 := by kernel_rfl
theorem en60 : entersB Try.prog 60 = true := by kernel_rfl
theorem en61 : entersB Try.prog 61 = true := by kernel_rfl
theorem en62 : entersB Try.prog 62 = true := by kernel_rfl
theorem en64 : entersB Try.prog 64 = true := by kernel_rfl
theorem en65 : entersB Try.prog 65 = true := by kernel_rfl
theorem en66 : entersB Try.prog 66 = true := by kernel_rfl
theorem en67 : entersB Try.prog 67 = true := by kernel_rfl
theorem en68 : entersB Try.prog 68 = true := by kernel_rfl
theorem en69 : entersB Try.prog 69 = true := by kernel_rfl
theorem en70 : entersB Try.prog 70 = true := by kernel_rfl
theorem en71 : entersB Try.prog 71 = true := by kernel_rfl
theorem en72 : entersB Try.prog 72 = true := by kernel_rfl
theorem sz5 : tsz Try.prog 5 = some 1 := by kernel_rfl
theorem sz22 : tsz Try.prog 22 = some 1 := by kernel_rfl
theorem sz91 : tsz Try.prog 91 = some 32 := by kernel_rfl
theorem sz99 : tsz Try.prog 99 = some 1 := by kernel_rfl
theorem sz100 : tsz Try.prog 100 = some 8 := by kernel_rfl
theorem sz108 : tsz Try.prog 108 = some 64 := by kernel_rfl
theorem ze5 : tze Try.prog 5 = some (Value.int .u8 0) := by kernel_rfl
theorem ze22 : tze Try.prog 22 = some (Value.int .u64 0) := by kernel_rfl
theorem ze91 : tze Try.prog 91 = some (.agg (List.replicate 32 (Value.int .u8 0)).toArray) := by kernel_rfl
theorem ze99 : tze Try.prog 99 = some (Value.int .u32 0) := by kernel_rfl
theorem ze100 : tze Try.prog 100 = some (.agg (List.replicate 8 (Value.int .u32 0)).toArray) := by kernel_rfl
theorem ze108 : tze Try.prog 108 = some (.agg (List.replicate 64 (Value.int .u32 0)).toArray) := by kernel_rfl
end Go.Proofs.Ytdingfinclcbgaa

