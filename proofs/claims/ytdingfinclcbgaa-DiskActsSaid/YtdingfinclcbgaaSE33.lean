/- Short words for what the older walks prove at each store. Generic (no program). -/
import Derived.Test.YtdingfinclcbgaaSE31
namespace Go
namespace SE
theorem WA {p : Prop} (h : p := by first | (intro u hu; obtain ⟨z, _, rfl⟩ := List.mem_map.1 hu; rfl) | simp [Value.oneCell']) : p := h
theorem WB {p : Prop} (h : p := by first | (simp; done) | (intro h; have h2 := congrArg List.length h; simp only [List.length_map, List.length_nil] at h2; omega) | (intro h; cases h)) : p := h
theorem WC {p : Prop} (h : p := by first | omega | (simp <;> omega) | rfl | (simp [*]; done)) : p := h
theorem WD {p : Prop} (h : p := by first | omega | (simp <;> omega)) : p := h
end SE
end Go
