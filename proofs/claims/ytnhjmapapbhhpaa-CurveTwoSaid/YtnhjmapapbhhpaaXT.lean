import Derived.Test.YtnhjmapapbhhpaaProg
import Derived.Test.YtnhjmapapbhhpaaSE4
import Derived.KernelRfl
namespace Go.Proofs.Ytnhjmapapbhhpaa
open Go.SE
theorem en8 : entersB Try.prog 8 = true := by kernel_rfl
theorem en10 : entersB Try.prog 10 = true := by kernel_rfl
theorem en11 : entersB Try.prog 11 = true := by kernel_rfl
theorem en12 : entersB Try.prog 12 = true := by kernel_rfl
theorem en13 : entersB Try.prog 13 = true := by kernel_rfl
theorem en14 : entersB Try.prog 14 = true := by kernel_rfl
theorem en15 : entersB Try.prog 15 = true := by kernel_rfl
theorem en16 : entersB Try.prog 16 = true := by kernel_rfl
theorem en17 : entersB Try.prog 17 = true := by kernel_rfl
theorem en24 : entersB Try.prog 24 = true := by kernel_rfl
theorem en25 : entersB Try.prog 25 = true := by kernel_rfl
theorem en26 : entersB Try.prog 26 = true := by kernel_rfl
theorem en27 : entersB Try.prog 27 = true := by kernel_rfl
theorem en30 : entersB Try.prog 30 = true := by kernel_rfl
theorem pl38 : places Try.prog 38 = some [(0, 5), (5, 5), (10, 5), (15, 5), (20, 5)] := by kernel_rfl
theorem pl51 : places Try.prog 51 = some [(0, 1), (1, 1)] := by kernel_rfl
theorem sz5 : tsz Try.prog 5 = some 1 := by kernel_rfl
theorem sz22 : tsz Try.prog 22 = some 32 := by kernel_rfl
theorem sz30 : tsz Try.prog 30 = some 96 := by kernel_rfl
theorem sz31 : tsz Try.prog 31 = some 1 := by kernel_rfl
theorem sz34 : tsz Try.prog 34 = some 5 := by kernel_rfl
theorem sz51 : tsz Try.prog 51 = some 2 := by kernel_rfl
theorem sz52 : tsz Try.prog 52 = some 10 := by kernel_rfl
theorem ze22 : tze Try.prog 22 = some (.agg (List.replicate 32 (.int .u8 0)).toArray) := by kernel_rfl
theorem ze30 : tze Try.prog 30 = some (.agg (List.replicate 96 (.int .u8 0)).toArray) := by kernel_rfl
theorem ze34 : tze Try.prog 34 = some (.agg (List.replicate 5 (.int .u64 0)).toArray) := by kernel_rfl
theorem ze38 : tze Try.prog 38 = some (.agg (List.replicate 25 (.int .u64 0)).toArray) := by kernel_rfl
theorem ze51 : tze Try.prog 51 = some (.agg (List.replicate 2 (.int .u64 0)).toArray) := by kernel_rfl
theorem ze52 : tze Try.prog 52 = some (.agg (List.replicate 10 (.int .u64 0)).toArray) := by kernel_rfl
end Go.Proofs.Ytnhjmapapbhhpaa
