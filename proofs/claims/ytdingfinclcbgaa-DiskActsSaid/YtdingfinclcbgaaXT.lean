import Derived.Test.YtdingfinclcbgaaProg
import Derived.Test.YtdingfinclcbgaaSE4
import Derived.KernelRfl
namespace Go.Proofs.Ytdingfinclcbgaa
open Go.SE
theorem by5 : tby Try.prog 5 = some 1 := by kernel_rfl
theorem by27 : tby Try.prog 27 = some 24 := by kernel_rfl
theorem by74 : tby Try.prog 74 = some 64 := by kernel_rfl
theorem en9 : entersB Try.prog 9 = true := by kernel_rfl
theorem en10 : entersB Try.prog 10 = true := by kernel_rfl
theorem en11 : entersB Try.prog 11 = true := by kernel_rfl
theorem en12 : entersB Try.prog 12 = true := by kernel_rfl
theorem en13 : entersB Try.prog 13 = true := by kernel_rfl
theorem en14 : entersB Try.prog 14 = true := by kernel_rfl
theorem en15 : entersB Try.prog 15 = true := by kernel_rfl
theorem en16 : entersB Try.prog 16 = true := by kernel_rfl
theorem en17 : entersB Try.prog 17 = true := by kernel_rfl
theorem en18 : entersB Try.prog 18 = true := by kernel_rfl
theorem en19 : entersB Try.prog 19 = true := by kernel_rfl
theorem en20 : entersB Try.prog 20 = true := by kernel_rfl
theorem en21 : entersB Try.prog 21 = true := by kernel_rfl
theorem en22 : entersB Try.prog 22 = true := by kernel_rfl
theorem en23 : entersB Try.prog 23 = true := by kernel_rfl
theorem en24 : entersB Try.prog 24 = true := by kernel_rfl
theorem en40 : entersB Try.prog 40 = true := by kernel_rfl
theorem en41 : entersB Try.prog 41 = true := by kernel_rfl
theorem en42 : entersB Try.prog 42 = true := by kernel_rfl
theorem pl46 : places Try.prog 46 = some [(0, 1), (1, 1), (2, 1), (3, 1), (4, 1)] := by kernel_rfl
theorem pl71 : places Try.prog 71 = some [(0, 1), (1, 1), (2, 1), (3, 1), (4, 1)] := by kernel_rfl
theorem sz3 : tsz Try.prog 3 = some 1 := by kernel_rfl
theorem sz4 : tsz Try.prog 4 = some 1 := by kernel_rfl
theorem sz5 : tsz Try.prog 5 = some 1 := by kernel_rfl
theorem sz27 : tsz Try.prog 27 = some 1 := by kernel_rfl
theorem sz40 : tsz Try.prog 40 = some 4 := by kernel_rfl
theorem sz44 : tsz Try.prog 44 = some 1 := by kernel_rfl
theorem sz69 : tsz Try.prog 69 = some 1 := by kernel_rfl
theorem sz71 : tsz Try.prog 71 = some 5 := by kernel_rfl
theorem sz74 : tsz Try.prog 74 = some 64 := by kernel_rfl
theorem ze5 : tze Try.prog 5 = some (Value.int .u8 0) := by kernel_rfl
theorem ze27 : tze Try.prog 27 = some (Value.slice none 0 0) := by kernel_rfl
theorem ze40 : tze Try.prog 40 = some (.agg #[(Value.int .i64 0), (Value.int .i64 0), (Value.int .i64 0), (Value.slice none 0 0)]) := by kernel_rfl
theorem ze46 : tze Try.prog 46 = some (.agg #[(Value.slice none 0 0), (Value.bool false), (Value.int .i64 0), (Value.int .i64 0), (Value.int .i64 0)]) := by kernel_rfl
theorem ze71 : tze Try.prog 71 = some (.agg #[(Value.slice none 0 0), (Value.bool false), (Value.int .i64 0), (Value.int .i64 0), (Value.int .i64 0)]) := by kernel_rfl
theorem ze74 : tze Try.prog 74 = some (.agg (List.replicate 64 (Value.int .u8 0)).toArray) := by kernel_rfl
end Go.Proofs.Ytdingfinclcbgaa
