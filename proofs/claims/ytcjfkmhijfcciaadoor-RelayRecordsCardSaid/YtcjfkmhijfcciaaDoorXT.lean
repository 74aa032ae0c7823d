import Derived.Test.YtcjfkmhijfcciaaDoorProg
import Derived.Test.YtcjfkmhijfcciaaDoorG1
import Derived.KernelRfl
namespace Go.Proofs.YtcjfkmhijfcciaaDoor
open Go.SE
theorem by5 : tby Tryd.prog 5 = some 1 := by kernel_rfl
theorem by26 : tby Tryd.prog 26 = some 8 := by kernel_rfl
theorem by71 : tby Tryd.prog 71 = some 4 := by kernel_rfl
theorem en29 : entersB Tryd.prog 29 = true := by kernel_rfl
theorem en32 : entersB Tryd.prog 32 = true := by kernel_rfl
theorem en33 : entersB Tryd.prog 33 = true := by kernel_rfl
theorem en34 : entersB Tryd.prog 34 = true := by kernel_rfl
theorem en35 : entersB Tryd.prog 35 = true := by kernel_rfl
theorem en40 : entersB Tryd.prog 40 = true := by kernel_rfl
theorem en41 : entersB Tryd.prog 41 = true := by kernel_rfl
theorem en42 : entersB Tryd.prog 42 = true := by kernel_rfl
theorem en43 : entersB Tryd.prog 43 = true := by kernel_rfl
theorem en44 : entersB Tryd.prog 44 = true := by kernel_rfl
theorem en45 : entersB Tryd.prog 45 = true := by kernel_rfl
theorem en46 : entersB Tryd.prog 46 = true := by kernel_rfl
theorem en47 : entersB Tryd.prog 47 = true := by kernel_rfl
theorem en48 : entersB Tryd.prog 48 = true := by kernel_rfl
theorem en49 : entersB Tryd.prog 49 = true := by kernel_rfl
theorem en53 : entersB Tryd.prog 53 = true := by kernel_rfl
theorem en54 : entersB Tryd.prog 54 = true := by kernel_rfl
theorem en55 : entersB Tryd.prog 55 = true := by kernel_rfl
theorem en56 : entersB Tryd.prog 56 = true := by kernel_rfl
theorem en57 : entersB Tryd.prog 57 = true := by kernel_rfl
theorem en58 : entersB Tryd.prog 58 = true := by kernel_rfl
theorem en59 : entersB Tryd.prog 59 = true := by kernel_rfl
theorem en60 : entersB Tryd.prog 60 = true := by kernel_rfl
theorem en61 : entersB Tryd.prog 61 = true := by kernel_rfl
theorem en62 : entersB Tryd.prog 62 = true := by kernel_rfl
theorem en63 : entersB Tryd.prog 63 = true := by kernel_rfl
theorem en64 : entersB Tryd.prog 64 = true := by kernel_rfl
theorem en65 : entersB Tryd.prog 65 = true := by kernel_rfl
theorem en68 : entersB Tryd.prog 68 = true := by kernel_rfl
theorem en69 : entersB Tryd.prog 69 = true := by kernel_rfl
theorem en70 : entersB Tryd.prog 70 = true := by kernel_rfl
theorem en71 : entersB Tryd.prog 71 = true := by kernel_rfl
theorem en72 : entersB Tryd.prog 72 = true := by kernel_rfl
theorem en74 : entersB Tryd.prog 74 = true := by kernel_rfl
theorem en76 : entersB Tryd.prog 76 = true := by kernel_rfl
theorem sz5 : tsz Tryd.prog 5 = some 1 := by kernel_rfl
theorem sz22 : tsz Tryd.prog 22 = some 32 := by kernel_rfl
theorem sz26 : tsz Tryd.prog 26 = some 1 := by kernel_rfl
theorem sz39 : tsz Tryd.prog 39 = some 12 := by kernel_rfl
theorem sz71 : tsz Tryd.prog 71 = some 1 := by kernel_rfl
theorem sz72 : tsz Tryd.prog 72 = some 16 := by kernel_rfl
theorem sz82 : tsz Tryd.prog 82 = some 8 := by kernel_rfl
theorem sz83 : tsz Tryd.prog 83 = some 1 := by kernel_rfl
theorem sz90 : tsz Tryd.prog 90 = some 64 := by kernel_rfl
theorem sz102 : tsz Tryd.prog 102 = some 64 := by kernel_rfl
theorem sz107 : tsz Tryd.prog 107 = some 16 := by kernel_rfl
theorem sz111 : tsz Tryd.prog 111 = some 3 := by kernel_rfl
theorem ze5 : tze Tryd.prog 5 = some (Value.int .u8 0) := by kernel_rfl
theorem ze22 : tze Tryd.prog 22 = some (.agg (List.replicate 32 (Value.int .u8 0)).toArray) := by kernel_rfl
theorem ze26 : tze Tryd.prog 26 = some (Value.int .u64 0) := by kernel_rfl
theorem ze71 : tze Tryd.prog 71 = some (Value.int .u32 0) := by kernel_rfl
theorem ze72 : tze Tryd.prog 72 = some (.agg (List.replicate 16 (Value.int .u8 0)).toArray) := by kernel_rfl
theorem ze82 : tze Tryd.prog 82 = some (.agg (List.replicate 8 (Value.int .u32 0)).toArray) := by kernel_rfl
theorem ze83 : tze Tryd.prog 83 = some (Value.slice none 0 0) := by kernel_rfl
theorem ze90 : tze Tryd.prog 90 = some (.agg (List.replicate 64 (Value.int .u8 0)).toArray) := by kernel_rfl
theorem ze102 : tze Tryd.prog 102 = some (.agg (List.replicate 64 (Value.int .u32 0)).toArray) := by kernel_rfl
theorem ze107 : tze Tryd.prog 107 = some (.agg (List.replicate 16 (Value.int .u32 0)).toArray) := by kernel_rfl
theorem ze111 : tze Tryd.prog 111 = some (.agg (List.replicate 3 (Value.int .u64 0)).toArray) := by kernel_rfl
end Go.Proofs.YtcjfkmhijfcciaaDoor

