import Derived.Test.YtdingfinclcbgaaXT
import Derived.Test.YtdingfinclcbgaaG1
import Derived.KernelRfl
namespace Go.Proofs.Ytdingfinclcbgaa
open Go.SE
theorem by27 : tby Try.prog 27 = some 24 := by kernel_rfl
theorem by74 : tby Try.prog 74 = some 64 := by kernel_rfl
theorem en9 : entersB Try.prog 9 = true := by kernel_rfl
theorem en11 : entersB Try.prog 11 = true := by kernel_rfl
theorem en13 : entersB Try.prog 13 = true := by kernel_rfl
theorem en18 : entersB Try.prog 18 = true := by kernel_rfl
theorem en25 : entersB Try.prog 25 = true := by kernel_rfl
theorem en26 : entersB Try.prog 26 = true := by kernel_rfl
theorem en28 : entersB Try.prog 28 = true := by kernel_rfl
theorem en29 : entersB Try.prog 29 = true := by kernel_rfl
theorem en30 : entersB Try.prog 30 = true := by kernel_rfl
theorem en31 : entersB Try.prog 31 = true := by kernel_rfl
theorem en32 : entersB Try.prog 32 = true := by kernel_rfl
theorem en33 : entersB Try.prog 33 = true := by kernel_rfl
theorem en35 : entersB Try.prog 35 = true := by kernel_rfl
theorem en40 : entersB Try.prog 40 = true := by kernel_rfl
theorem en41 : entersB Try.prog 41 = true := by kernel_rfl
theorem en43 : entersB Try.prog 43 = true := by kernel_rfl
theorem en44 : entersB Try.prog 44 = true := by kernel_rfl
theorem en45 : entersB Try.prog 45 = true := by kernel_rfl
theorem en46 : entersB Try.prog 46 = true := by kernel_rfl
theorem en47 : entersB Try.prog 47 = true := by kernel_rfl
theorem en48 : entersB Try.prog 48 = true := by kernel_rfl
theorem en49 : entersB Try.prog 49 = true := by kernel_rfl
theorem en50 : entersB Try.prog 50 = true := by kernel_rfl
theorem en51 : entersB Try.prog 51 = true := by kernel_rfl
theorem en52 : entersB Try.prog 52 = true := by kernel_rfl
theorem en53 : entersB Try.prog 53 = true := by kernel_rfl
theorem en54 : entersB Try.prog 54 = true := by kernel_rfl
theorem en55 : entersB Try.prog 55 = true := by kernel_rfl
theorem en56 : entersB Try.prog 56 = true := by kernel_rfl
theorem en57 : entersB Try.prog 57 = true := by kernel_rfl
theorem en58 : entersB Try.prog 58 = true := by kernel_rfl
theorem en59 : entersB Try.prog 59 = true := by kernel_rfl
theorem en63 : entersB Try.prog 63 = true := by kernel_rfl
theorem pl71 : places Try.prog 71 = some [(0, 1), (1, 1), (2, 1), (3, 1), (4, 1)] := by kernel_rfl
theorem pl82 : places Try.prog 82 = some [(0, 1), (1, 1), (2, 1), (3, 1), (4, 1), (5, 1)] := by kernel_rfl
theorem sz3 : tsz Try.prog 3 = some 1 := by kernel_rfl
theorem sz4 : tsz Try.prog 4 = some 1 := by kernel_rfl
theorem sz23 : tsz Try.prog 23 = some 1 := by kernel_rfl
theorem sz24 : tsz Try.prog 24 = some 1 := by kernel_rfl
theorem sz27 : tsz Try.prog 27 = some 1 := by kernel_rfl
theorem sz44 : tsz Try.prog 44 = some 1 := by kernel_rfl
theorem sz69 : tsz Try.prog 69 = some 1 := by kernel_rfl
theorem sz74 : tsz Try.prog 74 = some 64 := by kernel_rfl
theorem sz82 : tsz Try.prog 82 = some 6 := by kernel_rfl
theorem ze3 : tze Try.prog 3 = some (Value.int .i64 0) := by kernel_rfl
theorem ze24 : tze Try.prog 24 = some (Value.int .i64 0) := by kernel_rfl
theorem ze27 : tze Try.prog 27 = some (Value.slice none 0 0) := by kernel_rfl
theorem ze71 : tze Try.prog 71 = some (.agg #[(Value.slice none 0 0), (Value.bool false), (Value.int .i64 0), (Value.int .i64 0), (Value.int .i64 0)]) := by kernel_rfl
theorem ze74 : tze Try.prog 74 = some (.agg (List.replicate 64 (Value.int .u8 0)).toArray) := by kernel_rfl
theorem ze82 : tze Try.prog 82 = some (.agg #[(Value.pointer none), (Value.int .u64 0), (Value.int .i64 0), (Value.slice none 0 0), (Value.int .i64 0), (Value.bool false)]) := by kernel_rfl
end Go.Proofs.Ytdingfinclcbgaa

