import Derived.Test.YtihciioopdalnaaXT
import Derived.Test.YtihciioopdalnaaG1
import Derived.KernelRfl
namespace Go.Proofs.Ytihciioopdalnaa
open Go.SE
theorem by55 : tby Try.prog 55 = some 40 := by kernel_rfl
theorem by64 : tby Try.prog 64 = some 56 := by kernel_rfl
theorem by96 : tby Try.prog 96 = some 40 := by kernel_rfl
theorem en24 : entersB Try.prog 24 = true := by kernel_rfl
theorem en25 : entersB Try.prog 25 = true := by kernel_rfl
theorem en26 : entersB Try.prog 26 = true := by kernel_rfl
theorem en27 : entersB Try.prog 27 = true := by kernel_rfl
theorem en28 : entersB Try.prog 28 = true := by kernel_rfl
theorem en29 : entersB Try.prog 29 = true := by kernel_rfl
theorem en30 : entersB Try.prog 30 = true := by kernel_rfl
theorem en31 : entersB Try.prog 31 = true := by kernel_rfl
theorem en32 : entersB Try.prog 32 = true := by kernel_rfl
theorem en33 : entersB Try.prog 33 = true := by kernel_rfl
theorem en36 : entersB Try.prog 36 = true := by kernel_rfl
theorem en58 : entersB Try.prog 58 = true := by kernel_rfl
theorem en59 : entersB Try.prog 59 = true := by kernel_rfl
theorem en60 : entersB Try.prog 60 = true := by kernel_rfl
theorem en61 : entersB Try.prog 61 = true := by kernel_rfl
theorem en62 : entersB Try.prog 62 = true := by kernel_rfl
theorem en63 : entersB Try.prog 63 = true := by kernel_rfl
theorem en64 : entersB Try.prog 64 = true := by kernel_rfl
theorem en83 : entersB Try.prog 83 = true := by kernel_rfl
theorem pl40 : places Try.prog 40 = some [(0, 32), (32, 1), (33, 1)] := by kernel_rfl
theorem pl44 : places Try.prog 44 = some [(0, 32), (32, 1), (33, 1)] := by kernel_rfl
theorem pl55 : places Try.prog 55 = some [(0, 1), (1, 32)] := by kernel_rfl
theorem pl64 : places Try.prog 64 = some [(0, 1), (1, 32)] := by kernel_rfl
theorem pl96 : places Try.prog 96 = some [(0, 1), (1, 32)] := by kernel_rfl
theorem sz3 : tsz Try.prog 3 = some 1 := by kernel_rfl
theorem sz38 : tsz Try.prog 38 = some 1 := by kernel_rfl
theorem sz40 : tsz Try.prog 40 = some 34 := by kernel_rfl
theorem sz42 : tsz Try.prog 42 = some 1 := by kernel_rfl
theorem sz44 : tsz Try.prog 44 = some 34 := by kernel_rfl
theorem sz55 : tsz Try.prog 55 = some 33 := by kernel_rfl
theorem sz64 : tsz Try.prog 64 = some 33 := by kernel_rfl
theorem sz96 : tsz Try.prog 96 = some 33 := by kernel_rfl
theorem ze3 : tze Try.prog 3 = some (Value.int .i64 0) := by kernel_rfl
theorem ze40 : tze Try.prog 40 = some (.agg (List.replicate 32 (Value.int .u8 0) ++ (List.replicate 1 (Value.int .i64 0) ++ (List.replicate 1 (Value.slice none 0 0)))).toArray) := by kernel_rfl
theorem ze44 : tze Try.prog 44 = some (.agg (List.replicate 32 (Value.int .u8 0) ++ (List.replicate 1 (Value.int .i64 0) ++ (List.replicate 1 (Value.slice none 0 0)))).toArray) := by kernel_rfl
theorem ze55 : tze Try.prog 55 = some (.agg (List.replicate 1 (Value.int .i64 0) ++ (List.replicate 32 (Value.int .u8 0))).toArray) := by kernel_rfl
theorem ze64 : tze Try.prog 64 = some (.agg (List.replicate 1 (Value.slice none 0 0) ++ (List.replicate 32 (Value.int .u8 0))).toArray) := by kernel_rfl
theorem ze96 : tze Try.prog 96 = some (.agg (List.replicate 1 (Value.int .i64 0) ++ (List.replicate 32 (Value.int .u8 0))).toArray) := by kernel_rfl
end Go.Proofs.Ytihciioopdalnaa

