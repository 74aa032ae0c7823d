import Derived.Test.YtdingfinclcbgaaProg
import Derived.Test.YtdingfinclcbgaaSE4
import Derived.KernelRfl
namespace Go.Proofs.Ytdingfinclcbgaa
open Go.SE
theorem by5 : tby Try.prog 5 = some 1 := by kernel_rfl
theorem by74 : tby Try.prog 74 = some 64 := by kernel_rfl
theorem en9 : entersB Try.prog 9 = true := by kernel_rfl
theorem en10 : entersB Try.prog 10 = true := by kernel_rfl
theorem en11 : entersB Try.prog 11 = true := by kernel_rfl
theorem en12 : entersB Try.prog 12 = true := by kernel_rfl
theorem en13 : entersB Try.prog 13 = true := by kernel_rfl
theorem en14 : entersB Try.prog 14 = true := by kernel_rfl
theorem en15 : entersB Try.prog 15 = true := by kernel_rfl
theorem en17 : entersB Try.prog 17 = true := by kernel_rfl
theorem en40 : entersB Try.prog 40 = true := by kernel_rfl
theorem en41 : entersB Try.prog 41 = true := by kernel_rfl
theorem pl71 : places Try.prog 71 = some [(0, 1), (1, 1), (2, 1), (3, 1), (4, 1)] := by kernel_rfl
theorem sz3 : tsz Try.prog 3 = some 1 := by kernel_rfl
theorem sz4 : tsz Try.prog 4 = some 1 := by kernel_rfl
theorem sz5 : tsz Try.prog 5 = some 1 := by kernel_rfl
theorem sz69 : tsz Try.prog 69 = some 1 := by kernel_rfl
theorem sz74 : tsz Try.prog 74 = some 64 := by kernel_rfl
theorem ze5 : tze Try.prog 5 = some (.int .u8 0) := by kernel_rfl
theorem ze71 : tze Try.prog 71 = some (.agg #[(.slice none 0 0), (.bool false), (.int .i64 0), (.int .i64 0), (.int .i64 0)]) := by kernel_rfl
theorem ze74 : tze Try.prog 74 = some (.agg (List.replicate 64 (.int .u8 0)).toArray) := by kernel_rfl
end Go.Proofs.Ytdingfinclcbgaa
