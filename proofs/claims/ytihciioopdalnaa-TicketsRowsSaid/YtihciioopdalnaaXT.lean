import Derived.Test.YtihciioopdalnaaProg
import Derived.Test.YtihciioopdalnaaG1
import Derived.KernelRfl
namespace Go.Proofs.Ytihciioopdalnaa
open Go.SE
theorem by5 : tby Try.prog 5 = some 1 := by kernel_rfl
theorem by49 : tby Try.prog 49 = some 8 := by kernel_rfl
theorem by114 : tby Try.prog 114 = some 4 := by kernel_rfl
theorem en54 : entersB Try.prog 54 = true := by kernel_rfl
theorem en56 : entersB Try.prog 56 = true := by kernel_rfl
theorem en75 : entersB Try.prog 75 = true := by kernel_rfl
theorem en76 : entersB Try.prog 76 = true := by kernel_rfl
theorem en77 : entersB Try.prog 77 = true := by kernel_rfl
theorem en79 : entersB Try.prog 79 = true := by kernel_rfl
theorem en80 : entersB Try.prog 80 = true := by kernel_rfl
theorem en81 : entersB Try.prog 81 = true := by kernel_rfl
theorem en84 : entersB Try.prog 84 = true := by kernel_rfl
theorem en101 : entersB Try.prog 101 = true := by kernel_rfl
theorem en102 : entersB Try.prog 102 = true := by kernel_rfl
theorem en103 : entersB Try.prog 103 = true := by kernel_rfl
theorem en104 : entersB Try.prog 104 = true := by kernel_rfl
theorem en108 : entersB Try.prog 108 = true := by kernel_rfl
theorem en120 : entersB Try.prog 120 = true := by kernel_rfl
theorem en121 : entersB Try.prog 121 = true := by kernel_rfl
theorem en122 : entersB Try.prog 122 = true := by kernel_rfl
theorem en136 : entersB Try.prog 136 = true := by kernel_rfl
theorem sz5 : tsz Try.prog 5 = some 1 := by kernel_rfl
theorem sz23 : tsz Try.prog 23 = some 32 := by kernel_rfl
theorem sz49 : tsz Try.prog 49 = some 1 := by kernel_rfl
theorem sz114 : tsz Try.prog 114 = some 1 := by kernel_rfl
theorem sz115 : tsz Try.prog 115 = some 8 := by kernel_rfl
theorem sz121 : tsz Try.prog 121 = some 64 := by kernel_rfl
theorem ze5 : tze Try.prog 5 = some (Value.int .u8 0) := by kernel_rfl
theorem ze23 : tze Try.prog 23 = some (.agg (List.replicate 32 (Value.int .u8 0)).toArray) := by kernel_rfl
theorem ze49 : tze Try.prog 49 = some (Value.int .u64 0) := by kernel_rfl
theorem ze114 : tze Try.prog 114 = some (Value.int .u32 0) := by kernel_rfl
theorem ze115 : tze Try.prog 115 = some (.agg (List.replicate 8 (Value.int .u32 0)).toArray) := by kernel_rfl
theorem ze121 : tze Try.prog 121 = some (.agg (List.replicate 64 (Value.int .u32 0)).toArray) := by kernel_rfl
end Go.Proofs.Ytihciioopdalnaa

