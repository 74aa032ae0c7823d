import Derived.Test.YtablmdbonibjaaaDoorProg
import Derived.Test.YtablmdbonibjaaaDoorSE4
import Derived.KernelRfl
namespace Go.Proofs.YtablmdbonibjaaaDoor
open Go.SE
theorem by5 : tby Tryd.prog 5 = some 1 := by kernel_rfl
theorem by26 : tby Tryd.prog 26 = some 8 := by kernel_rfl
theorem by68 : tby Tryd.prog 68 = some 4 := by kernel_rfl
theorem en35 : entersB Tryd.prog 35 = true := by kernel_rfl
theorem en36 : entersB Tryd.prog 36 = true := by kernel_rfl
theorem en39 : entersB Tryd.prog 39 = true := by kernel_rfl
theorem en40 : entersB Tryd.prog 40 = true := by kernel_rfl
theorem en41 : entersB Tryd.prog 41 = true := by kernel_rfl
theorem en42 : entersB Tryd.prog 42 = true := by kernel_rfl
theorem en47 : entersB Tryd.prog 47 = true := by kernel_rfl
theorem en48 : entersB Tryd.prog 48 = true := by kernel_rfl
theorem en49 : entersB Tryd.prog 49 = true := by kernel_rfl
theorem en50 : entersB Tryd.prog 50 = true := by kernel_rfl
theorem en51 : entersB Tryd.prog 51 = true := by kernel_rfl
theorem en52 : entersB Tryd.prog 52 = true := by kernel_rfl
theorem en53 : entersB Tryd.prog 53 = true := by kernel_rfl
theorem en54 : entersB Tryd.prog 54 = true := by kernel_rfl
theorem en55 : entersB Tryd.prog 55 = true := by kernel_rfl
theorem en56 : entersB Tryd.prog 56 = true := by kernel_rfl
theorem en60 : entersB Tryd.prog 60 = true := by kernel_rfl
theorem en61 : entersB Tryd.prog 61 = true := by kernel_rfl
theorem en62 : entersB Tryd.prog 62 = true := by kernel_rfl
theorem en63 : entersB Tryd.prog 63 = true := by kernel_rfl
theorem en64 : entersB Tryd.prog 64 = true := by kernel_rfl
theorem en65 : entersB Tryd.prog 65 = true := by kernel_rfl
theorem en66 : entersB Tryd.prog 66 = true := by kernel_rfl
theorem en67 : entersB Tryd.prog 67 = true := by kernel_rfl
theorem en68 : entersB Tryd.prog 68 = true := by kernel_rfl
theorem en69 : entersB Tryd.prog 69 = true := by kernel_rfl
theorem en70 : entersB Tryd.prog 70 = true := by kernel_rfl
theorem en71 : entersB Tryd.prog 71 = true := by kernel_rfl
theorem en74 : entersB Tryd.prog 74 = true := by kernel_rfl
theorem en75 : entersB Tryd.prog 75 = true := by kernel_rfl
theorem en76 : entersB Tryd.prog 76 = true := by kernel_rfl
theorem en77 : entersB Tryd.prog 77 = true := by kernel_rfl
theorem en78 : entersB Tryd.prog 78 = true := by kernel_rfl
theorem en79 : entersB Tryd.prog 79 = true := by kernel_rfl
theorem en81 : entersB Tryd.prog 81 = true := by kernel_rfl
theorem en82 : entersB Tryd.prog 82 = true := by kernel_rfl
theorem en84 : entersB Tryd.prog 84 = true := by kernel_rfl
theorem en85 : entersB Tryd.prog 85 = true := by kernel_rfl
theorem en86 : entersB Tryd.prog 86 = true := by kernel_rfl
theorem en87 : entersB Tryd.prog 87 = true := by kernel_rfl
theorem en88 : entersB Tryd.prog 88 = true := by kernel_rfl
theorem en89 : entersB Tryd.prog 89 = true := by kernel_rfl
theorem en90 : entersB Tryd.prog 90 = true := by kernel_rfl
theorem en91 : entersB Tryd.prog 91 = true := by kernel_rfl
theorem en92 : entersB Tryd.prog 92 = true := by kernel_rfl
theorem en93 : entersB Tryd.prog 93 = true := by kernel_rfl
theorem en94 : entersB Tryd.prog 94 = true := by kernel_rfl
theorem en95 : entersB Tryd.prog 95 = true := by kernel_rfl
theorem en96 : entersB Tryd.prog 96 = true := by kernel_rfl
theorem en97 : entersB Tryd.prog 97 = true := by kernel_rfl
theorem sz3 : tsz Tryd.prog 3 = some 1 := by kernel_rfl
theorem sz5 : tsz Tryd.prog 5 = some 1 := by kernel_rfl
theorem sz22 : tsz Tryd.prog 22 = some 32 := by kernel_rfl
theorem sz23 : tsz Tryd.prog 23 = some 12 := by kernel_rfl
theorem sz26 : tsz Tryd.prog 26 = some 1 := by kernel_rfl
theorem sz68 : tsz Tryd.prog 68 = some 1 := by kernel_rfl
theorem sz69 : tsz Tryd.prog 69 = some 16 := by kernel_rfl
theorem sz84 : tsz Tryd.prog 84 = some 64 := by kernel_rfl
theorem sz96 : tsz Tryd.prog 96 = some 16 := by kernel_rfl
theorem sz101 : tsz Tryd.prog 101 = some 17 := by kernel_rfl
theorem sz102 : tsz Tryd.prog 102 = some 40 := by kernel_rfl
theorem sz106 : tsz Tryd.prog 106 = some 16 := by kernel_rfl
theorem sz107 : tsz Tryd.prog 107 = some 1 := by kernel_rfl
theorem sz111 : tsz Tryd.prog 111 = some 3 := by kernel_rfl
theorem sz116 : tsz Tryd.prog 116 = some 4 := by kernel_rfl
theorem sz126 : tsz Tryd.prog 126 = some 8 := by kernel_rfl
theorem sz129 : tsz Tryd.prog 129 = some 64 := by kernel_rfl
theorem ze5 : tze Tryd.prog 5 = some (.int .u8 0) := by kernel_rfl
theorem ze22 : tze Tryd.prog 22 = some (.agg (List.replicate 32 (.int .u8 0)).toArray) := by kernel_rfl
theorem ze26 : tze Tryd.prog 26 = some (.int .u64 0) := by kernel_rfl
theorem ze68 : tze Tryd.prog 68 = some (.int .u32 0) := by kernel_rfl
theorem ze69 : tze Tryd.prog 69 = some (.agg (List.replicate 16 (.int .u8 0)).toArray) := by kernel_rfl
theorem ze84 : tze Tryd.prog 84 = some (.agg (List.replicate 64 (.int .u8 0)).toArray) := by kernel_rfl
theorem ze96 : tze Tryd.prog 96 = some (.agg (List.replicate 16 (.int .u64 0)).toArray) := by kernel_rfl
theorem ze98 : tze Tryd.prog 98 = some (.agg (List.replicate 4 (.int .i64 0)).toArray) := by kernel_rfl
theorem ze100 : tze Tryd.prog 100 = some (.agg (List.replicate 16 (.int .i64 0)).toArray) := by kernel_rfl
theorem ze101 : tze Tryd.prog 101 = some (.agg (List.replicate 17 (.int .i64 0)).toArray) := by kernel_rfl
theorem ze102 : tze Tryd.prog 102 = some (.agg (List.replicate 40 (.int .i64 0)).toArray) := by kernel_rfl
theorem ze106 : tze Tryd.prog 106 = some (.agg (List.replicate 16 (.int .u32 0)).toArray) := by kernel_rfl
theorem ze107 : tze Tryd.prog 107 = some (.slice none 0 0) := by kernel_rfl
theorem ze111 : tze Tryd.prog 111 = some (.agg (List.replicate 3 (.int .u64 0)).toArray) := by kernel_rfl
theorem ze116 : tze Tryd.prog 116 = some (.agg (List.replicate 4 (.int .u64 0)).toArray) := by kernel_rfl
theorem ze126 : tze Tryd.prog 126 = some (.agg (List.replicate 8 (.int .u32 0)).toArray) := by kernel_rfl
theorem ze129 : tze Tryd.prog 129 = some (.agg (List.replicate 64 (.int .u32 0)).toArray) := by kernel_rfl
end Go.Proofs.YtablmdbonibjaaaDoor
