import Derived.Test.YtihciioopdalnaaProg
import Derived.Test.YtihciioopdalnaaSE4
import Derived.KernelRfl
namespace Go.Proofs.Ytihciioopdalnaa
open Go.SE
theorem by5 : tby Try.prog 5 = some 1 := by kernel_rfl
theorem by49 : tby Try.prog 49 = some 8 := by kernel_rfl
theorem by114 : tby Try.prog 114 = some 4 := by kernel_rfl
theorem en13 : entersB Try.prog 13 = true := by kernel_rfl
theorem en14 : entersB Try.prog 14 = true := by kernel_rfl
theorem en15 : entersB Try.prog 15 = true := by kernel_rfl
theorem en16 : entersB Try.prog 16 = true := by kernel_rfl
theorem en17 : entersB Try.prog 17 = true := by kernel_rfl
theorem en18 : entersB Try.prog 18 = true := by kernel_rfl
theorem en19 : entersB Try.prog 19 = true := by kernel_rfl
theorem en20 : entersB Try.prog 20 = true := by kernel_rfl
theorem en21 : entersB Try.prog 21 = true := by kernel_rfl
theorem en22 : entersB Try.prog 22 = true := by kernel_rfl
theorem en23 : entersB Try.prog 23 = true := by kernel_rfl
theorem en37 : entersB Try.prog 37 = true := by kernel_rfl
theorem en38 : entersB Try.prog 38 = true := by kernel_rfl
theorem en39 : entersB Try.prog 39 = true := by kernel_rfl
theorem en40 : entersB Try.prog 40 = true := by kernel_rfl
theorem en41 : entersB Try.prog 41 = true := by kernel_rfl
theorem en42 : entersB Try.prog 42 = true := by kernel_rfl
theorem en50 : entersB Try.prog 50 = true := by kernel_rfl
theorem en51 : entersB Try.prog 51 = true := by kernel_rfl
theorem en52 : entersB Try.prog 52 = true := by kernel_rfl
theorem en53 : entersB Try.prog 53 = true := by kernel_rfl
theorem en54 : entersB Try.prog 54 = true := by kernel_rfl
theorem en55 : entersB Try.prog 55 = true := by kernel_rfl
theorem en56 : entersB Try.prog 56 = true := by kernel_rfl
theorem en57 : entersB Try.prog 57 = true := by kernel_rfl
theorem en60 : entersB Try.prog 60 = true := by kernel_rfl
theorem en64 : entersB Try.prog 64 = true := by kernel_rfl
theorem en65 : entersB Try.prog 65 = true := by kernel_rfl
theorem en75 : entersB Try.prog 75 = true := by kernel_rfl
theorem en76 : entersB Try.prog 76 = true := by kernel_rfl
theorem en77 : entersB Try.prog 77 = true := by kernel_rfl
theorem en78 : entersB Try.prog 78 = true := by kernel_rfl
theorem en79 : entersB Try.prog 79 = true := by kernel_rfl
theorem en80 : entersB Try.prog 80 = true := by kernel_rfl
theorem en81 : entersB Try.prog 81 = true := by kernel_rfl
theorem en82 : entersB Try.prog 82 = true := by kernel_rfl
theorem en84 : entersB Try.prog 84 = true := by kernel_rfl
theorem en85 : entersB Try.prog 85 = true := by kernel_rfl
theorem en86 : entersB Try.prog 86 = true := by kernel_rfl
theorem en101 : entersB Try.prog 101 = true := by kernel_rfl
theorem en102 : entersB Try.prog 102 = true := by kernel_rfl
theorem en103 : entersB Try.prog 103 = true := by kernel_rfl
theorem en104 : entersB Try.prog 104 = true := by kernel_rfl
theorem en105 : entersB Try.prog 105 = true := by kernel_rfl
theorem en106 : entersB Try.prog 106 = true := by kernel_rfl
theorem en108 : entersB Try.prog 108 = true := by kernel_rfl
theorem en109 : entersB Try.prog 109 = true := by kernel_rfl
theorem en120 : entersB Try.prog 120 = true := by kernel_rfl
theorem en121 : entersB Try.prog 121 = true := by kernel_rfl
theorem en122 : entersB Try.prog 122 = true := by kernel_rfl
theorem en136 : entersB Try.prog 136 = true := by kernel_rfl
theorem pl25 : places Try.prog 25 = some [(0, 32), (32, 32), (64, 32)] := by kernel_rfl
theorem sz5 : tsz Try.prog 5 = some 1 := by kernel_rfl
theorem sz9 : tsz Try.prog 9 = some 1 := by kernel_rfl
theorem sz23 : tsz Try.prog 23 = some 32 := by kernel_rfl
theorem sz25 : tsz Try.prog 25 = some 96 := by kernel_rfl
theorem sz49 : tsz Try.prog 49 = some 1 := by kernel_rfl
theorem sz114 : tsz Try.prog 114 = some 1 := by kernel_rfl
theorem sz115 : tsz Try.prog 115 = some 8 := by kernel_rfl
theorem sz121 : tsz Try.prog 121 = some 64 := by kernel_rfl
theorem ze5 : tze Try.prog 5 = some (.int .u8 0) := by kernel_rfl
theorem ze9 : tze Try.prog 9 = some (.string ByteArray.empty) := by kernel_rfl
theorem ze23 : tze Try.prog 23 = some (.agg (List.replicate 32 (.int .u8 0)).toArray) := by kernel_rfl
theorem ze25 : tze Try.prog 25 = some (.agg (List.replicate 96 (.int .u8 0)).toArray) := by kernel_rfl
theorem ze49 : tze Try.prog 49 = some (.int .u64 0) := by kernel_rfl
theorem ze114 : tze Try.prog 114 = some (.int .u32 0) := by kernel_rfl
theorem ze115 : tze Try.prog 115 = some (.agg (List.replicate 8 (.int .u32 0)).toArray) := by kernel_rfl
theorem ze121 : tze Try.prog 121 = some (.agg (List.replicate 64 (.int .u32 0)).toArray) := by kernel_rfl
end Go.Proofs.Ytihciioopdalnaa
