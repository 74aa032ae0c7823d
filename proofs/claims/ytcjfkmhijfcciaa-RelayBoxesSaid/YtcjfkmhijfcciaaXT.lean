import Derived.Test.YtcjfkmhijfcciaaProg
import Derived.Test.YtcjfkmhijfcciaaSE4
import Derived.KernelRfl
namespace Go.Proofs.Ytcjfkmhijfcciaa
open Go.SE
theorem by5 : tby Try.prog 5 = some 1 := by kernel_rfl
theorem by66 : tby Try.prog 66 = some 8 := by kernel_rfl
theorem by104 : tby Try.prog 104 = some 4 := by kernel_rfl
theorem en18 : entersB Try.prog 18 = true := by kernel_rfl
theorem en56 : entersB Try.prog 56 = true := by kernel_rfl
theorem en57 : entersB Try.prog 57 = true := by kernel_rfl
theorem en58 : entersB Try.prog 58 = true := by kernel_rfl
theorem en59 : entersB Try.prog 59 = true := by kernel_rfl
theorem en60 : entersB Try.prog 60 = true := by kernel_rfl
theorem en61 : entersB Try.prog 61 = true := by kernel_rfl
theorem en62 : entersB Try.prog 62 = true := by kernel_rfl
theorem en63 : entersB Try.prog 63 = true := by kernel_rfl
theorem en64 : entersB Try.prog 64 = true := by kernel_rfl
theorem en103 : entersB Try.prog 103 = true := by kernel_rfl
theorem en104 : entersB Try.prog 104 = true := by kernel_rfl
theorem en105 : entersB Try.prog 105 = true := by kernel_rfl
theorem en106 : entersB Try.prog 106 = true := by kernel_rfl
theorem en107 : entersB Try.prog 107 = true := by kernel_rfl
theorem en108 : entersB Try.prog 108 = true := by kernel_rfl
theorem en109 : entersB Try.prog 109 = true := by kernel_rfl
theorem en110 : entersB Try.prog 110 = true := by kernel_rfl
theorem en111 : entersB Try.prog 111 = true := by kernel_rfl
theorem en112 : entersB Try.prog 112 = true := by kernel_rfl
theorem en113 : entersB Try.prog 113 = true := by kernel_rfl
theorem en114 : entersB Try.prog 114 = true := by kernel_rfl
theorem en115 : entersB Try.prog 115 = true := by kernel_rfl
theorem en129 : entersB Try.prog 129 = true := by kernel_rfl
theorem en130 : entersB Try.prog 130 = true := by kernel_rfl
theorem en131 : entersB Try.prog 131 = true := by kernel_rfl
theorem en132 : entersB Try.prog 132 = true := by kernel_rfl
theorem en133 : entersB Try.prog 133 = true := by kernel_rfl
theorem en134 : entersB Try.prog 134 = true := by kernel_rfl
theorem en135 : entersB Try.prog 135 = true := by kernel_rfl
theorem en136 : entersB Try.prog 136 = true := by kernel_rfl
theorem en137 : entersB Try.prog 137 = true := by kernel_rfl
theorem en138 : entersB Try.prog 138 = true := by kernel_rfl
theorem en139 : entersB Try.prog 139 = true := by kernel_rfl
theorem en140 : entersB Try.prog 140 = true := by kernel_rfl
theorem en141 : entersB Try.prog 141 = true := by kernel_rfl
theorem en142 : entersB Try.prog 142 = true := by kernel_rfl
theorem en143 : entersB Try.prog 143 = true := by kernel_rfl
theorem en144 : entersB Try.prog 144 = true := by kernel_rfl
theorem en145 : entersB Try.prog 145 = true := by kernel_rfl
theorem en146 : entersB Try.prog 146 = true := by kernel_rfl
theorem en147 : entersB Try.prog 147 = true := by kernel_rfl
theorem en148 : entersB Try.prog 148 = true := by kernel_rfl
theorem sz3 : tsz Try.prog 3 = some 1 := by kernel_rfl
theorem sz5 : tsz Try.prog 5 = some 1 := by kernel_rfl
theorem sz22 : tsz Try.prog 22 = some 32 := by kernel_rfl
theorem sz54 : tsz Try.prog 54 = some 12 := by kernel_rfl
theorem sz66 : tsz Try.prog 66 = some 1 := by kernel_rfl
theorem sz104 : tsz Try.prog 104 = some 1 := by kernel_rfl
theorem sz105 : tsz Try.prog 105 = some 8 := by kernel_rfl
theorem sz106 : tsz Try.prog 106 = some 1 := by kernel_rfl
theorem sz110 : tsz Try.prog 110 = some 16 := by kernel_rfl
theorem sz150 : tsz Try.prog 150 = some 64 := by kernel_rfl
theorem sz156 : tsz Try.prog 156 = some 64 := by kernel_rfl
theorem sz178 : tsz Try.prog 178 = some 16 := by kernel_rfl
theorem sz181 : tsz Try.prog 181 = some 3 := by kernel_rfl
theorem sz186 : tsz Try.prog 186 = some 16 := by kernel_rfl
theorem sz191 : tsz Try.prog 191 = some 17 := by kernel_rfl
theorem sz192 : tsz Try.prog 192 = some 40 := by kernel_rfl
theorem sz198 : tsz Try.prog 198 = some 4 := by kernel_rfl
theorem ze5 : tze Try.prog 5 = some (.int .u8 0) := by kernel_rfl
theorem ze22 : tze Try.prog 22 = some (.agg (List.replicate 32 (.int .u8 0)).toArray) := by kernel_rfl
theorem ze66 : tze Try.prog 66 = some (.int .u64 0) := by kernel_rfl
theorem ze104 : tze Try.prog 104 = some (.int .u32 0) := by kernel_rfl
theorem ze105 : tze Try.prog 105 = some (.agg (List.replicate 8 (.int .u32 0)).toArray) := by kernel_rfl
theorem ze106 : tze Try.prog 106 = some (.slice none 0 0) := by kernel_rfl
theorem ze110 : tze Try.prog 110 = some (.agg (List.replicate 16 (.int .u8 0)).toArray) := by kernel_rfl
theorem ze150 : tze Try.prog 150 = some (.agg (List.replicate 64 (.int .u32 0)).toArray) := by kernel_rfl
theorem ze156 : tze Try.prog 156 = some (.agg (List.replicate 64 (.int .u8 0)).toArray) := by kernel_rfl
theorem ze178 : tze Try.prog 178 = some (.agg (List.replicate 16 (.int .u32 0)).toArray) := by kernel_rfl
theorem ze181 : tze Try.prog 181 = some (.agg (List.replicate 3 (.int .u64 0)).toArray) := by kernel_rfl
theorem ze186 : tze Try.prog 186 = some (.agg (List.replicate 16 (.int .u64 0)).toArray) := by kernel_rfl
theorem ze188 : tze Try.prog 188 = some (.agg (List.replicate 4 (.int .i64 0)).toArray) := by kernel_rfl
theorem ze190 : tze Try.prog 190 = some (.agg (List.replicate 16 (.int .i64 0)).toArray) := by kernel_rfl
theorem ze191 : tze Try.prog 191 = some (.agg (List.replicate 17 (.int .i64 0)).toArray) := by kernel_rfl
theorem ze192 : tze Try.prog 192 = some (.agg (List.replicate 40 (.int .i64 0)).toArray) := by kernel_rfl
theorem ze198 : tze Try.prog 198 = some (.agg (List.replicate 4 (.int .u64 0)).toArray) := by kernel_rfl
end Go.Proofs.Ytcjfkmhijfcciaa

