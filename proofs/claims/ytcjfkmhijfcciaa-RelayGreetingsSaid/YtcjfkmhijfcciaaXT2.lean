import Derived.Test.YtcjfkmhijfcciaaXT
import Derived.Test.YtcjfkmhijfcciaaG1
import Derived.KernelRfl
namespace Go.Proofs.Ytcjfkmhijfcciaa
open Go.SE
theorem by3 : tby Try.prog 3 = some 8 := by kernel_rfl
theorem en6 : entersB Try.prog 6 = true := by kernel_rfl
theorem en7 : entersB Try.prog 7 = true := by kernel_rfl
theorem en8 : entersB Try.prog 8 = true := by kernel_rfl
theorem en9 : entersB Try.prog 9 = true := by kernel_rfl
theorem en10 : entersB Try.prog 10 = true := by kernel_rfl
theorem en11 : entersB Try.prog 11 = true := by kernel_rfl
theorem en12 : entersB Try.prog 12 = true := by kernel_rfl
theorem en13 : entersB Try.prog 13 = true := by kernel_rfl
theorem en14 : entersB Try.prog 14 = true := by kernel_rfl
theorem en29 : entersB Try.prog 29 = true := by kernel_rfl
theorem en30 : entersB Try.prog 30 = true := by kernel_rfl
theorem en31 : entersB Try.prog 31 = true := by kernel_rfl
theorem en32 : entersB Try.prog 32 = true := by kernel_rfl
theorem en33 : entersB Try.prog 33 = true := by kernel_rfl
theorem en34 : entersB Try.prog 34 = true := by kernel_rfl
theorem en35 : entersB Try.prog 35 = true := by kernel_rfl
theorem en36 : entersB Try.prog 36 = true := by kernel_rfl
theorem en37 : entersB Try.prog 37 = true := by kernel_rfl
theorem en38 : entersB Try.prog 38 = true := by kernel_rfl
theorem en39 : entersB Try.prog 39 = true := by kernel_rfl
theorem en40 : entersB Try.prog 40 = true := by kernel_rfl
theorem en41 : entersB Try.prog 41 = true := by kernel_rfl
theorem en42 : entersB Try.prog 42 = true := by kernel_rfl
theorem en43 : entersB Try.prog 43 = true := by kernel_rfl
theorem en44 : entersB Try.prog 44 = true := by kernel_rfl
theorem en45 : entersB Try.prog 45 = true := by kernel_rfl
theorem en46 : entersB Try.prog 46 = true := by kernel_rfl
theorem en48 : entersB Try.prog 48 = true := by kernel_rfl
theorem en49 : entersB Try.prog 49 = true := by kernel_rfl
theorem en73 : entersB Try.prog 73 = true := by kernel_rfl
theorem en74 : entersB Try.prog 74 = true := by kernel_rfl
theorem en87 : entersB Try.prog 87 = true := by kernel_rfl
theorem en88 : entersB Try.prog 88 = true := by kernel_rfl
theorem en89 : entersB Try.prog 89 = true := by kernel_rfl
theorem en90 : entersB Try.prog 90 = true := by kernel_rfl
theorem en91 : entersB Try.prog 91 = true := by kernel_rfl
theorem en92 : entersB Try.prog 92 = true := by kernel_rfl
theorem en93 : entersB Try.prog 93 = true := by kernel_rfl
theorem en94 : entersB Try.prog 94 = true := by kernel_rfl
theorem pl29 : places Try.prog 29 = some [(0, 32), (32, 1), (33, 1), (34, 1), (35, 1), (36, 1), (37, 1), (38, 1), (39, 1), (40, 1), (41, 1)] := by kernel_rfl
theorem pl36 : places Try.prog 36 = some [(0, 1), (1, 1)] := by kernel_rfl
theorem pl72 : places Try.prog 72 = some [(0, 1), (1, 1)] := by kernel_rfl
theorem pl83 : places Try.prog 83 = some [(0, 1), (1, 1)] := by kernel_rfl
theorem sz3 : tsz Try.prog 3 = some 1 := by kernel_rfl
theorem sz4 : tsz Try.prog 4 = some 1 := by kernel_rfl
theorem sz23 : tsz Try.prog 23 = some 1 := by kernel_rfl
theorem sz24 : tsz Try.prog 24 = some 1 := by kernel_rfl
theorem sz25 : tsz Try.prog 25 = some 1 := by kernel_rfl
theorem sz26 : tsz Try.prog 26 = some 1 := by kernel_rfl
theorem sz27 : tsz Try.prog 27 = some 1 := by kernel_rfl
theorem sz29 : tsz Try.prog 29 = some 42 := by kernel_rfl
theorem sz31 : tsz Try.prog 31 = some 1 := by kernel_rfl
theorem sz36 : tsz Try.prog 36 = some 2 := by kernel_rfl
theorem sz134 : tsz Try.prog 134 = some 1 := by kernel_rfl
theorem ze3 : tze Try.prog 3 = some (Value.int .i64 0) := by kernel_rfl
theorem ze4 : tze Try.prog 4 = some (Value.bool false) := by kernel_rfl
theorem ze24 : tze Try.prog 24 = some (Value.slice none 0 0) := by kernel_rfl
theorem ze29 : tze Try.prog 29 = some (.agg (List.replicate 32 (Value.int .u8 0) ++ (List.replicate 10 (Value.slice none 0 0))).toArray) := by kernel_rfl
theorem ze36 : tze Try.prog 36 = some (.agg #[(Value.int .i64 0), (Value.slice none 0 0)]) := by kernel_rfl
theorem ze72 : tze Try.prog 72 = some (.agg #[(Value.slice none 0 0), (Value.bool false)]) := by kernel_rfl
theorem ze83 : tze Try.prog 83 = some (.agg #[(Value.slice none 0 0), (Value.int .i64 0)]) := by kernel_rfl
theorem ze134 : tze Try.prog 134 = some (Value.map none) := by kernel_rfl
end Go.Proofs.Ytcjfkmhijfcciaa

