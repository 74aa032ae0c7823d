/- Families of slices of bytes that begin behind so many of their block's. -/
import Derived.Test.YtdingfinclcbgaaSE36
namespace Go
namespace SE
open Go.RowKit
set_option linter.unusedVariables false
set_option linter.unusedSimpArgs false
/-- A slice l at q of a block's bytes w. -/
structure BG where
  A : Option Addr
  b : Nat
  c : Nat
  l : List (BitVec 8)
  q : Nat
  w : List (BitVec 8)
instance : Inhabited BG := ⟨⟨none, 0, 0, [], 0, []⟩⟩
def BG.ok (e : BG) : Prop := (0 < e.c → e.A = some ⟨e.b, e.q, none⟩) ∧ e.l.length ≤ e.c ∧ (e.w.drop e.q).take e.l.length = e.l ∧ e.q + e.l.length ≤ e.w.length
theorem BG.adr {e : BG} (h : e.ok) (h0 : 0 < e.l.length) : e.A = some ⟨e.b, e.q, none⟩ := h.1 (Nat.lt_of_lt_of_le h0 h.2.1)
theorem BG.adc {e : BG} (h : e.ok) (h0 : 0 < e.c) : e.A = some ⟨e.b, e.q, none⟩ := h.1 h0
theorem BG.le {e : BG} (h : e.ok) : e.l.length ≤ e.c := h.2.1
theorem BG.okP {es : List BG} {x : BG} (h : ∀ e ∈ es, e.ok) (hx : x.ok) : ∀ e ∈ es ++ [x], e.ok := fun e he => by
  rcases List.mem_append.1 he with he | he
  · exact h e he
  · rw [List.mem_singleton.1 he]; exact hx
abbrev BG.v (e : BG) : Value := .slice e.A e.l.length e.c
abbrev BG.row (ty : TypeId) (e : BG) : Row := ⟨true, e.b, 0, ty, e.w.map u8V, e.c + e.q - e.w.length⟩
/-- A block's all. -/
abbrev bG (A : Option Addr) (b c : Nat) (l : List (BitVec 8)) : BG := ⟨A, b, c, l, 0, l⟩
theorem bG_ok {A : Option Addr} {b c : Nat} {l : List (BitVec 8)} (h1 : 0 < c → A = some ⟨b, 0, none⟩) (h2 : l.length ≤ c) : (bG A b c l).ok :=
  ⟨h1, h2, by rw [List.drop_zero, List.take_length], by show 0 + l.length ≤ l.length; omega⟩
theorem bG_row {A : Option Addr} {b c : Nat} {l : List (BitVec 8)} {ty : TypeId} : (bG A b c l).row ty = ⟨true, b, 0, ty, l.map u8V, c - l.length⟩ := rfl
/-- What is seen of a slice's block through it. -/
theorem BG.see {e : BG} (h : e.ok) {ty ty' : TypeId} {rest : Nat} : View (e.row ty) ⟨false, e.b, e.q, ty', e.l.map u8V, rest⟩ := by
  refine ⟨rfl, rfl, e.q, (Nat.zero_add _).symm, fun p v hv => ?_⟩
  have h3 := h.2.2.1
  rw [← h3, List.map_take, List.map_drop] at hv
  rw [List.getElem?_take] at hv
  split at hv
  · rwa [List.getElem?_drop] at hv
  · cases hv
abbrev famG (b : Nat) (ty : TypeId) (es : List BG) : Fam := ⟨b, dlt es.length, fun i => (es.getD i default).row ty⟩
abbrev famGut (b : Nat) (ty : TypeId) (es : List BG) (j : Nat) : Fam := ⟨b, dbut es.length j, fun i => (es.getD i default).row ty⟩
theorem getDG_left {es : List BG} {x : BG} {i : Nat} (h : i < es.length) : (es ++ [x]).getD i default = es.getD i default := by
  simp [List.getD_eq_getElem?_getD, List.getElem?_append_left h]
theorem getDG_right {es : List BG} {x : BG} : (es ++ [x]).getD es.length default = x := by
  simp [List.getD_eq_getElem?_getD]
theorem getDG_mem {es : List BG} {i : Nat} (h : i < es.length) : es.getD i default ∈ es := by
  rw [List.getD_eq_getElem?_getD, List.getElem?_eq_getElem h]
  exact List.getElem_mem h
section
variable {E : Env} {fr : Fr} {T : Act → World → Prop} {b k : Nat} {ty : TypeId} {es : List BG} {m : List (Nat × Row)} {fs : List Fam}
theorem At.famPushG (e : BG) (hk : AllL (LowK b k) m) (hkb : Nat.blt k b = true) (hfs : AllL (FarF b k) fs) (h : At E fr (famsOf (hOf m) (famG b ty (es ++ [e]) :: fs)) T) : At E fr (famsOf (hOf ((k, e.row ty) :: m)) (famG b ty es :: fs)) T :=
  At.famPut (j := es.length) hk hkb hfs (fun i hi hne => by
    have h1 := dlt_iff.1 hi
    rw [List.length_append, List.length_singleton] at h1
    have h2 : i < es.length := by omega
    exact ⟨dlt_iff.2 h2, by rw [getDG_left h2]⟩) (by rw [getDG_right]) h
theorem At.famOutG (k : Nat) {i : Nat} (hi : i < es.length) (hk : AllL (LowK b k) m) (hkb : Nat.blt k b = true) (hfs : AllL (FarF b k) fs) (h : At E fr (famsOf (hOf ((k, (es.getD i default).row ty) :: m)) (famGut b ty es i :: fs)) T) : At E fr (famsOf (hOf m) (famG b ty es :: fs)) T :=
  At.famTake (j := i) k _ hk hkb hfs (dlt_iff.2 hi) rfl (dbut es.length i) (fun q hq => by
    have := dbut_iff.1 hq
    exact ⟨dlt_iff.2 this.1, this.2⟩) h
theorem At.famInG {i : Nat} (hk : AllL (LowK b k) m) (hkb : Nat.blt k b = true) (hfs : AllL (FarF b k) fs) (h : At E fr (famsOf (hOf m) (famG b ty es :: fs)) T) : At E fr (famsOf (hOf ((k, (es.getD i default).row ty) :: m)) (famGut b ty es i :: fs)) T :=
  At.famPut (j := i) hk hkb hfs (fun q hq hne => ⟨dbut_iff.2 ⟨dlt_iff.1 hq, hne⟩, rfl⟩) rfl h
/-- .. another one in its place. -/
theorem At.famSetG (e : BG) {i : Nat} (hi : i < es.length) (hk : AllL (LowK b k) m) (hkb : Nat.blt k b = true) (hfs : AllL (FarF b k) fs) (h : At E fr (famsOf (hOf m) (famG b ty (es.set i e) :: fs)) T) : At E fr (famsOf (hOf ((k, e.row ty) :: m)) (famGut b ty es i :: fs)) T :=
  At.famPut (j := i) hk hkb hfs (fun q hq hne => by
    have h1 := dlt_iff.1 hq
    rw [List.length_set] at h1
    exact ⟨dbut_iff.2 ⟨h1, hne⟩, by simp [List.getD_eq_getElem?_getD, List.getElem?_set_ne (Ne.symm hne)]⟩) (by simp [List.getD_eq_getElem?_getD, hi]) h
theorem FamOk.butG {H : Hp} {j : Nat} (h : FamOk H (famG b ty es)) : FamOk H (famGut b ty es j) := h.congr fun i hi => ⟨dlt_iff.2 (dbut_iff.1 hi).1, rfl⟩
end
theorem rows_rangeG (ty : TypeId) (es : List BG) : es.map (BG.row ty) = (List.range es.length).map fun i => (es.getD i default).row ty := by
  apply List.ext_getElem (by simp)
  intro i h1 h2
  have h3 : i < es.length := by simpa using h1
  simp [List.getD_eq_getElem?_getD, h3]
theorem give_famG {H : Hp} {ks : List Nat} {rs : List Row} {b : Nat} {ty : TypeId} {es : List BG} (h0 : ks.map H = rs.map some) (hF : FamOk H (famG b ty es)) : (ks ++ famK b es.length).map H = (rs ++ es.map (BG.row ty)).map some := by
  rw [List.map_append, List.map_append, h0, rows_rangeG, famK, List.map_map, List.map_map]
  congr 1
  refine List.map_congr_left fun i hi => ?_
  exact hF i (dlt_iff.2 (List.mem_range.1 hi))
theorem own_famG {rs : List Row} {ty : TypeId} {es : List BG} (h : ∀ r ∈ rs, r.own = true) : ∀ r ∈ rs ++ es.map (BG.row ty), r.own = true := fun r hr => by
  rcases List.mem_append.1 hr with hr | hr
  · exact h r hr
  · obtain ⟨e, _, rfl⟩ := List.mem_map.1 hr
    rfl
theorem sets_famG {b : Nat} {ty : TypeId} {es : List BG} {H : Hp} {ks : List Nat} {rs : List Row} (h : ks.length = rs.length) : H.sets (ks ++ famK b ((rs ++ es.map (BG.row ty)).length - ks.length)) (rs ++ es.map (BG.row ty)) = famsOf (H.sets ks rs) [famG b ty es] := by
  have e : (rs ++ es.map (BG.row ty)).length - ks.length = es.length := by simp; omega
  rw [e, Hp.sets_app h, rows_rangeG]
  exact sets_fam _ _
end SE
end Go
