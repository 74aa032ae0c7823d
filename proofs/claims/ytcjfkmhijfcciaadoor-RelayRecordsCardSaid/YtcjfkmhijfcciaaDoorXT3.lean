import Derived.Test.YtcjfkmhijfcciaaDoorXT2
import Derived.Test.YtcjfkmhijfcciaaDoorG1
import Derived.KernelRfl
namespace Go.Proofs.YtcjfkmhijfcciaaDoor
open Go.SE
theorem en5 : entersB Tryd.prog 5 = true := by kernel_rfl
theorem en20 : entersB Tryd.prog 20 = true := by kernel_rfl
theorem en30 : entersB Tryd.prog 30 = true := by kernel_rfl
theorem en31 : entersB Tryd.prog 31 = true := by kernel_rfl
theorem pl24 : places Tryd.prog 24 = some [(0, 1), (1, 1), (2, 1)] := by kernel_rfl
theorem pl66 : places Tryd.prog 66 = some [(0, 1), (1, 1)] := by kernel_rfl
theorem sz3 : tsz Tryd.prog 3 = some 1 := by kernel_rfl
theorem sz24 : tsz Tryd.prog 24 = some 3 := by kernel_rfl
theorem sz30 : tsz Tryd.prog 30 = some 1 := by kernel_rfl
theorem sz36 : tsz Tryd.prog 36 = some 1 := by kernel_rfl
theorem ze24 : tze Tryd.prog 24 = some (.agg (List.replicate 3 (Value.int .i64 0)).toArray) := by kernel_rfl
theorem ze66 : tze Tryd.prog 66 = some (.agg #[(Value.slice none 0 0), (Value.int .i64 0)]) := by kernel_rfl
end Go.Proofs.YtcjfkmhijfcciaaDoor

