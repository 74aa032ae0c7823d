import Derived.Test.YtihciioopdalnaaProg
import Derived.Test.YtihciioopdalnaaSE4
import Derived.KernelRfl
namespace Go.Proofs.Ytihciioopdalnaa
open Go.SE
theorem by5 : tby Try.prog 5 = some 1 := by kernel_rfl
theorem by114 : tby Try.prog 114 = some 4 := by kernel_rfl
theorem en92 : entersB Try.prog 92 = true := by kernel_rfl
theorem en93 : entersB Try.prog 93 = true := by kernel_rfl
theorem en94 : entersB Try.prog 94 = true := by kernel_rfl
theorem en95 : entersB Try.prog 95 = true := by kernel_rfl
theorem en96 : entersB Try.prog 96 = true := by kernel_rfl
theorem en108 : entersB Try.prog 108 = true := by kernel_rfl
theorem en112 : entersB Try.prog 112 = true := by kernel_rfl
theorem en113 : entersB Try.prog 113 = true := by kernel_rfl
theorem en114 : entersB Try.prog 114 = true := by kernel_rfl
theorem en115 : entersB Try.prog 115 = true := by kernel_rfl
theorem en116 : entersB Try.prog 116 = true := by kernel_rfl
theorem en117 : entersB Try.prog 117 = true := by kernel_rfl
theorem en118 : entersB Try.prog 118 = true := by kernel_rfl
theorem en119 : entersB Try.prog 119 = true := by kernel_rfl
theorem en122 : entersB Try.prog 122 = true := by kernel_rfl
theorem en125 : entersB Try.prog 125 = true := by kernel_rfl
theorem en126 : entersB Try.prog 126 = true := by kernel_rfl
theorem en127 : entersB Try.prog 127 = true := by kernel_rfl
theorem en128 : entersB Try.prog 128 = true := by kernel_rfl
theorem en129 : entersB Try.prog 129 = true := by kernel_rfl
theorem en130 : entersB Try.prog 130 = true := by kernel_rfl
theorem en131 : entersB Try.prog 131 = true := by kernel_rfl
theorem en132 : entersB Try.prog 132 = true := by kernel_rfl
theorem en133 : entersB Try.prog 133 = true := by kernel_rfl
theorem en134 : entersB Try.prog 134 = true := by kernel_rfl
theorem en135 : entersB Try.prog 135 = true := by kernel_rfl
theorem en137 : entersB Try.prog 137 = true := by kernel_rfl
theorem en139 : entersB Try.prog 139 = true := by kernel_rfl
theorem en140 : entersB Try.prog 140 = true := by kernel_rfl
theorem en141 : entersB Try.prog 141 = true := by kernel_rfl
theorem sz3 : tsz Try.prog 3 = some 1 := by kernel_rfl
theorem sz5 : tsz Try.prog 5 = some 1 := by kernel_rfl
theorem sz23 : tsz Try.prog 23 = some 32 := by kernel_rfl
theorem sz49 : tsz Try.prog 49 = some 1 := by kernel_rfl
theorem sz107 : tsz Try.prog 107 = some 12 := by kernel_rfl
theorem sz114 : tsz Try.prog 114 = some 1 := by kernel_rfl
theorem sz116 : tsz Try.prog 116 = some 1 := by kernel_rfl
theorem sz143 : tsz Try.prog 143 = some 16 := by kernel_rfl
theorem sz164 : tsz Try.prog 164 = some 64 := by kernel_rfl
theorem sz176 : tsz Try.prog 176 = some 16 := by kernel_rfl
theorem sz180 : tsz Try.prog 180 = some 3 := by kernel_rfl
theorem sz185 : tsz Try.prog 185 = some 16 := by kernel_rfl
theorem sz190 : tsz Try.prog 190 = some 17 := by kernel_rfl
theorem sz191 : tsz Try.prog 191 = some 40 := by kernel_rfl
theorem sz198 : tsz Try.prog 198 = some 4 := by kernel_rfl
theorem ze5 : tze Try.prog 5 = some (.int .u8 0) := by kernel_rfl
theorem ze23 : tze Try.prog 23 = some (.agg (List.replicate 32 (.int .u8 0)).toArray) := by kernel_rfl
theorem ze114 : tze Try.prog 114 = some (.int .u32 0) := by kernel_rfl
theorem ze116 : tze Try.prog 116 = some (.slice none 0 0) := by kernel_rfl
theorem ze143 : tze Try.prog 143 = some (.agg (List.replicate 16 (.int .u8 0)).toArray) := by kernel_rfl
theorem ze164 : tze Try.prog 164 = some (.agg (List.replicate 64 (.int .u8 0)).toArray) := by kernel_rfl
theorem ze176 : tze Try.prog 176 = some (.agg (List.replicate 16 (.int .u32 0)).toArray) := by kernel_rfl
theorem ze180 : tze Try.prog 180 = some (.agg (List.replicate 3 (.int .u64 0)).toArray) := by kernel_rfl
theorem ze185 : tze Try.prog 185 = some (.agg (List.replicate 16 (.int .u64 0)).toArray) := by kernel_rfl
theorem ze187 : tze Try.prog 187 = some (.agg (List.replicate 4 (.int .i64 0)).toArray) := by kernel_rfl
theorem ze189 : tze Try.prog 189 = some (.agg (List.replicate 16 (.int .i64 0)).toArray) := by kernel_rfl
theorem ze190 : tze Try.prog 190 = some (.agg (List.replicate 17 (.int .i64 0)).toArray) := by kernel_rfl
theorem ze191 : tze Try.prog 191 = some (.agg (List.replicate 40 (.int .i64 0)).toArray) := by kernel_rfl
theorem ze198 : tze Try.prog 198 = some (.agg (List.replicate 4 (.int .u64 0)).toArray) := by kernel_rfl
end Go.Proofs.Ytihciioopdalnaa
