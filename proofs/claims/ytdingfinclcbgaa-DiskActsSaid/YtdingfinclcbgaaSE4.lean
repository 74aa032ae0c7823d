/- Slices: cut, appended, made, copied; parts put together; strings. -/
import Derived.Test.YtdingfinclcbgaaSE3
import Derived.Laws.MakeOwn
namespace Go
namespace SE
open Go.RowKit
set_option linter.unusedVariables false
set_option linter.unusedSimpArgs false

/-- A bound of a cut: left out (then it is d), or a number. -/
def Bd (fr : Fr) (x : Option Operand) (d l : Nat) : Prop := match x with
  | none => l = d
  | some ox => ∃ k i, fr.ev ox = some (.int k i) ∧ i = (l : Int)

theorem run_sliceBound {P : Program} {k : IntKind} {l y : Nat} {c : BoundsCode} (h : l ≤ y) (w : World) : (Instr.sliceBound (.int k (l : Int)) y c).run P w = .ok l w := by
  have : (0 : Int) ≤ (l : Int) ∧ (l : Int) ≤ (y : Int) := by omega
  simp [Instr.sliceBound, asIntOf, h]
theorem run_bounds {P : Program} {fr : Fr} {a : Act} (hf : FrOk fr a) {lo hi mx : Option Operand} {len cap l h m : Nat} {b : Bool} (hl : Bd fr lo 0 l) (hh : Bd fr hi len h) (hm : Bd fr mx cap m) (h1 : l ≤ h) (h2 : h ≤ m) (h3 : m ≤ cap) (hmx : mx.isSome = true → hi.isSome = true) (w : World) :
    (Instr.sliceBounds b len cap (lo.map a.eval) (hi.map a.eval) (mx.map a.eval)).run P w = .ok (l, h, m) w := by
  unfold Instr.sliceBounds
  cases lo with
  | none =>
    simp only [Bd] at hl
    subst hl
    cases hi with
    | none =>
      simp only [Bd] at hh
      subst hh
      cases mx with
      | none => simp only [Bd] at hm; subst hm; simp
      | some x => simp at hmx
    | some y =>
      obtain ⟨ky, iy, hy, rfl⟩ := hh
      cases mx with
      | none => simp only [Bd] at hm; subst hm; simp [hf.ev hy, run_sliceBound h2]
      | some x =>
        obtain ⟨kx, ix, hx, rfl⟩ := hm
        simp [hf.ev hy, hf.ev hx, run_sliceBound h2, run_sliceBound h3]
  | some z =>
    obtain ⟨kz, iz, hz, rfl⟩ := hl
    cases hi with
    | none =>
      simp only [Bd] at hh
      subst hh
      cases mx with
      | none => simp only [Bd] at hm; subst hm; simp [hf.ev hz, run_sliceBound h1]
      | some x => simp at hmx
    | some y =>
      obtain ⟨ky, iy, hy, rfl⟩ := hh
      cases mx with
      | none => simp only [Bd] at hm; subst hm; simp [hf.ev hy, hf.ev hz, run_sliceBound h1, run_sliceBound h2]
      | some x =>
        obtain ⟨kx, ix, hx, rfl⟩ := hm
        simp [hf.ev hy, hf.ev hx, hf.ev hz, run_sliceBound h1, run_sliceBound h2, run_sliceBound h3]

/-- The address of a cut. -/
def cut (A : Option Addr) (l m sz : Nat) : Option Addr := if m = l then A else A.map (·.add (l * sz))
theorem cut_addr {A : Option Addr} {b o l m sz : Nat} (hA : A = some ⟨b, o, none⟩) (h : l < m) : cut A l m sz = some ⟨b, o + l * sz, none⟩ := by
  unfold cut
  rw [if_neg (by omega), hA]
  simp [add_addr]
theorem cut_addr1 {A : Option Addr} {b o l m : Nat} (hA : A = some ⟨b, o, none⟩) (h : l < m) : cut A l m 1 = some ⟨b, o + l, none⟩ := by rw [cut_addr hA h, Nat.mul_one]
theorem cut_zero {A : Option Addr} {b o m sz : Nat} (hA : A = some ⟨b, o, none⟩) : cut A 0 m sz = some ⟨b, o, none⟩ := by
  unfold cut
  split
  · exact hA
  · rw [hA]; simp [Addr.add]

section
variable {P : Program} {E : Env} {fr : Fr} {H : Hp} {o : Oper} {t ty : TypeId} {x y : Operand} {v : Value}

theorem P_slice_sl {t e : TypeId} {lo hi mx : Option Operand} {A : Option Addr} {len cap l h m sz : Nat} (ho : o.op = .slice t x lo hi mx) (ht : P.underlying t = some (.slice e)) (hz : tsz P e = some sz)
    (hx : fr.ev x = some (.slice A len cap)) (hl : Bd fr lo 0 l) (hh : Bd fr hi len h) (hm : Bd fr mx cap m) (h1 : l ≤ h) (h2 : h ≤ m) (h3 : m ≤ cap) (hmx : mx.isSome = true → hi.isSome = true := by decide) :
    PStep P fr o (.slice (cut A l m sz) (h - l) (m - l)) := by
  intro a ha w; unfold execOp
  have hb := run_bounds (P := P) (b := true) ha hl hh hm h1 h2 h3 hmx
  simp [ho, ha.ev hx, Instr.sliceAt, Instr.slice, run_underlying ht, hb, run_tsz hz, cut]
theorem P_slice_arr {t e : TypeId} {lo hi mx : Option Operand} {n b q l h m sz : Nat} (ho : o.op = .slice t x lo hi mx) (ht : P.underlying t = some (.array n e)) (hz : tsz P e = some sz)
    (hx : fr.ev x = some (.pointer (some ⟨b, q, none⟩))) (hl : Bd fr lo 0 l) (hh : Bd fr hi n h) (hm : Bd fr mx n m) (h1 : l ≤ h) (h2 : h ≤ m) (h3 : m ≤ n) (h4 : l < m ∨ l = 0) (hmx : mx.isSome = true → hi.isSome = true := by decide) :
    PStep P fr o (.slice (some ⟨b, q + l * sz, none⟩) (h - l) (m - l)) := by
  intro a ha w; unfold execOp
  have hb := run_bounds (P := P) (b := false) ha hl hh hm h1 h2 h3 hmx
  have : (if m = l then (⟨b, q, none⟩ : Addr) else ⟨b, q + l * sz, none⟩) = ⟨b, q + l * sz, none⟩ := by
    split
    · rcases h4 with h4 | h4
      · omega
      · subst h4; simp
    · rfl
  simp [ho, ha.ev hx, Instr.sliceAt, run_underlying ht, hb, run_tsz hz, Instr.sureAddr, add_addr, this]
theorem P_slice_arr1 {t e : TypeId} {lo hi mx : Option Operand} {n b l h m : Nat} (ho : o.op = .slice t x lo hi mx) (ht : P.underlying t = some (.array n e)) (hz : tsz P e = some 1)
    (hx : fr.ev x = some (.pointer (some ⟨b, 0, none⟩))) (hl : Bd fr lo 0 l) (hh : Bd fr hi n h) (hm : Bd fr mx n m) (h1 : l ≤ h) (h2 : h ≤ m) (h3 : m ≤ n) (h4 : l < m ∨ l = 0) (hmx : mx.isSome = true → hi.isSome = true := by decide) :
    PStep P fr o (.slice (some ⟨b, l, none⟩) (h - l) (m - l)) := by
  have := P_slice_arr (P := P) ho ht hz hx hl hh hm h1 h2 h3 h4 hmx
  rwa [Nat.zero_add, Nat.mul_one] at this
theorem P_slice_str {t : TypeId} {lo hi : Option Operand} {s : ByteArray} {l h : Nat} (ho : o.op = .slice t x lo hi none) (ht : P.underlying t = some .string)
    (hx : fr.ev x = some (.string s)) (hl : Bd fr lo 0 l) (hh : Bd fr hi s.size h) (h1 : l ≤ h) (h2 : h ≤ s.size) : PStep P fr o (.string (s.extract l h)) := by
  intro a ha w; unfold execOp
  have hb := run_bounds (P := P) (b := false) (mx := none) (cap := s.size) (m := s.size) ha hl hh rfl h1 h2 (Nat.le_refl _) (by simp)
  simp only [Option.map_none] at hb
  simp [ho, ha.ev hx, Instr.sliceAt, Instr.slice, run_underlying ht, hb]

/-! ### Parts -/
theorem P_build_arr {t e : TypeId} {n sz : Nat} {z : Value} {parts : List (Nat × Operand)} {vs : List (Nat × Value)} {cs : Array Value} (ho : o.op = .build t parts.toArray) (ht : P.underlying t = some (.array n e)) (hz : tsz P e = some sz) (hzz : tze P t = some z)
    (hp : parts.map (fun p => (p.1, fr.ev p.2)) = vs.map (fun p => (p.1, some p.2))) (hc : Instr.fill (fun i => some (i * sz, sz)) z.cells vs = some cs) : PStep P fr o (.agg cs) := by
  intro a ha w; unfold execOp
  have he : parts.map (fun p => (p.1, a.eval p.2)) = vs := by
    clear hc ho
    induction parts generalizing vs with
    | nil => cases vs <;> simp_all
    | cons p ps ih =>
      cases vs with
      | nil => simp at hp
      | cons q qs =>
        simp only [List.map_cons, List.cons.injEq, Prod.mk.injEq] at hp
        rw [List.map_cons, ih hp.2, ha.ev hp.1.2, hp.1.1]
  simp [ho, Instr.build, run_underlying ht, run_tze hzz, run_tsz hz, he, hc]
/-- The places of a struct's parts. -/
def places (P : Program) (t : TypeId) : Option (List (Nat × Nat)) := match P.underlying t with
  | some (.struct fs) => fs.toList.mapM fun f => (tsz P f.type).map fun n => (f.offset, n)
  | _ => none
theorem run_places {P : Program} {w : World} : ∀ (fs : List Field) (pl : List (Nat × Nat)), (fs.mapM fun f => (tsz P f.type).map fun n => (f.offset, n)) = some pl → (fs.mapM (m := Sem) fun f => do pure (f.offset, ← sizeOf f.type)).run P w = .ok pl w
  | [], pl, h => by simp at h; subst h; simp
  | f :: fs, pl, h => by
    rw [List.mapM_cons] at h ⊢
    simp only [Option.bind_eq_bind, Option.bind_eq_some_iff, Option.map_eq_some_iff] at h
    obtain ⟨p, ⟨n, hn, rfl⟩, ps, hps, h⟩ := h
    cases h
    simp only [Sem.run_bind, run_tsz hn, Result.andThen_ok, Sem.run_pure, run_places fs ps hps]
theorem P_build_struct {t : TypeId} {fs : Array Field} {z : Value} {pl : List (Nat × Nat)} {parts : List (Nat × Operand)} {vs : List (Nat × Value)} {cs : Array Value} (ho : o.op = .build t parts.toArray) (ht : P.underlying t = some (.struct fs)) (hzz : tze P t = some z)
    (hpl : places P t = some pl)
    (hp : parts.map (fun p => (p.1, fr.ev p.2)) = vs.map (fun p => (p.1, some p.2))) (hc : Instr.fill (pl.toArray[·]?) z.cells vs = some cs) : PStep P fr o (.agg cs) := by
  intro a ha w; unfold execOp
  have he : parts.map (fun p => (p.1, a.eval p.2)) = vs := by
    clear hc ho
    induction parts generalizing vs with
    | nil => cases vs <;> simp_all
    | cons p ps ih =>
      cases vs with
      | nil => simp at hp
      | cons q qs =>
        simp only [List.map_cons, List.cons.injEq, Prod.mk.injEq] at hp
        rw [List.map_cons, ih hp.2, ha.ev hp.1.2, hp.1.1]
  have hm : (fs.mapM (m := Sem) fun f => do pure (f.offset, ← sizeOf f.type)).run P w = .ok pl.toArray w := by
    unfold places at hpl
    rw [ht] at hpl
    have h1 := run_places (P := P) (w := w) fs.toList pl hpl
    rw [Array.mapM_eq_mapM_toList, Sem.run_map, h1]
    rfl
  have hb : (Instr.build t (parts.toArray.map fun (i, x) => (i, a.eval x))).run P w = .ok (.agg cs) w := by
    unfold Instr.build
    simp only [Sem.run_bind, run_tze hzz, run_underlying ht, Result.andThen_ok]
    rw [hm, Result.andThen_ok]
    simp at hc
    simp [he, hc]
  simp [ho]
  simp at hb
  simp [hb]
theorem run_newRow {P : Program} (e : TypeId) (cs : Array Value) (w : World) : (newRow e cs).run P w = .ok ⟨w.heap.size, 0, none⟩ (w.alloc (.cells cs e)) := by
  unfold newRow newObj World.alloc
  rfl
theorem parts_eval {fr : Fr} {a : Act} (ha : FrOk fr a) : ∀ {parts : List (Nat × Operand)} {vs : List (Nat × Value)}, parts.map (fun p => (p.1, fr.ev p.2)) = vs.map (fun p => (p.1, some p.2)) → parts.map (fun p => (p.1, a.eval p.2)) = vs
  | [], vs, hp => by cases vs <;> simp_all
  | p :: ps, [], hp => by simp at hp
  | p :: ps, q :: qs, hp => by
    simp only [List.map_cons, List.cons.injEq, Prod.mk.injEq] at hp
    rw [List.map_cons, parts_eval ha hp.2, ha.ev hp.1.2, hp.1.1]
theorem S_buildSlice (d : Option Tmp) (k : Nat) {t e : TypeId} {n sz : Nat} {z : Value} {parts : List (Nat × Operand)} {vs : List (Nat × Value)} {cs : List Value} {K : Fr → Hp → Prop} (ho : o.op = .buildSlice t n parts.toArray) (ht : P.underlying t = some (.slice e)) (hz : tsz P e = some sz) (hzz : tze P e = some z) (hn : n * sz ≤ 2 ^ 24) (h0 : n * sz ≠ 0)
    (hp : parts.map (fun p => (p.1, fr.ev p.2)) = vs.map (fun p => (p.1, some p.2)))
    (hc : Instr.fill (fun i => some (i * sz, sz)) ((Array.range (n * sz)).map (z.cells[· % z.cells.size]!)) vs = some cs.toArray)
    (h : ∀ b, K (fr.put E.n d (.slice (some ⟨b, 0, none⟩) n n)) (H.set k ⟨true, b, 0, e, cs, 0⟩)) (hd : o.dst = d := by rfl) : SStep P E false fr H o K := by
  subst hd
  intro a w R
  have he := parts_eval R.fr hp
  have hb : (Instr.buildSlice t n (parts.toArray.map fun (i, x) => (i, a.eval x))).run P w = .ok (.slice (some ⟨w.heap.size, 0, none⟩) n n) (w.alloc (.cells cs.toArray e)) := by
    unfold Instr.buildSlice
    simp only [Sem.run_bind, run_tze hzz, run_underlying ht, Result.andThen_ok, run_tsz hz]
    rw [if_neg (by omega), if_neg h0]
    simp only [Sem.run_bind, run_tze hzz, Result.andThen_ok, Sem.run_pure]
    have hv : (parts.toArray.map fun (i, x) => (i, a.eval x)).toList = vs := by simpa using he
    rw [hv, hc]
    simp [run_newRow]
  have hrun : (execOp a.eval o).run P w = .ok (.value (.slice (some ⟨w.heap.size, 0, none⟩) n n)) (w.alloc (.cells cs.toArray e)) := by
    unfold execOp
    simp only [ho, Sem.run_bind, Sem.run_pure]
    rw [hb]
    rfl
  unfold Oper.wp
  rw [hrun]
  have hb : Below w.heap.size w (w.alloc (.cells cs.toArray e)) := (Below.refl _ _).alloc (Nat.le_refl _) _
  refine ⟨fun _ => hb, _, _, h w.heap.size, ?_⟩
  have R' := R.put o.dst (.slice (some ⟨w.heap.size, 0, none⟩) n n)
  exact ⟨R'.df, R'.size, R'.fr, R.chg.trans (Chg.of_below hb), R.heap.alloc R.chg k cs.toArray e⟩
/-- An empty one. -/
theorem S_buildSlice0 (d : Option Tmp) (k : Nat) {t e : TypeId} {sz : Nat} {K : Fr → Hp → Prop} (ho : o.op = .buildSlice t 0 #[]) (ht : P.underlying t = some (.slice e)) (hz : tsz P e = some sz)
    (h : ∀ b, K (fr.put E.n d (.slice (some ⟨b, 0, none⟩) 0 0)) (H.set k ⟨true, b, 0, e, [], 0⟩)) (hd : o.dst = d := by rfl) : SStep P E false fr H o K := by
  subst hd
  intro a w R
  have hrun : (execOp a.eval o).run P w = .ok (.value (.slice (some ⟨w.heap.size, 0, none⟩) 0 0)) (w.alloc (.cells #[] e)) := by
    unfold execOp
    simp [ho, Instr.buildSlice, run_underlying ht, run_tsz hz, Instr.fill, run_newRow, Array.range_zero']
  unfold Oper.wp
  rw [hrun]
  have hb : Below w.heap.size w (w.alloc (.cells #[] e)) := (Below.refl _ _).alloc (Nat.le_refl _) _
  refine ⟨fun _ => hb, _, _, h w.heap.size, ?_⟩
  have R' := R.put o.dst (.slice (some ⟨w.heap.size, 0, none⟩) 0 0)
  exact ⟨R'.df, R'.size, R'.fr, R.chg.trans (Chg.of_below hb), R.heap.alloc R.chg k #[] e⟩
/-- make([]T, n) -/
theorem S_makeN (d : Option Tmp) (k : Nat) {t e : TypeId} {n sz by_ : Nat} {z : Value} {cs : List Value} {kl kc : IntKind} {i j : Int} {K : Fr → Hp → Prop} (ho : o.op = .makeSlice t x y) (ht : P.underlying t = some (.slice e)) (hz : tsz P e = some sz) (hby : tby P e = some by_) (hzz : tze P e = some z)
    (hx : fr.ev x = some (.int kl i)) (hy : fr.ev y = some (.int kc j)) (hi : i = (n : Int)) (hj : j = (n : Int)) (hn : n ≤ 140737488355328) (hb : by_ * n ≤ 281474976710656) (hc : (madeCells z.cells (n * sz)).toList = cs)
    (h : ∀ b, K (fr.put E.n d (.slice (some ⟨b, 0, none⟩) n n)) (H.set k ⟨true, b, 0, e, cs, 0⟩)) (hd : o.dst = d := by rfl) : SStep P E false fr H o K := by
  subst hd
  intro a w R
  subst hi hj hc
  obtain ⟨it, hi0, hi1⟩ := Option.map_eq_some_iff.1 (show (P.info? e).map (·.bytes) = _ from hby)
  have hi2 : it.size = sz := by
    have := hz
    unfold tsz at this
    rw [hi0] at this
    exact Option.some.inj this
  have hi3 : it.zero = some z := by
    have := hzz
    unfold tze at this
    rw [hi0] at this
    exact this
  have hb' : (it.bytes : Int) * (n : Int) ≤ 281474976710656 := by rw [hi1]; rw [← Int.natCast_mul]; omega
  have hm := run_make (P := P) w t e it z ht hi0 hi3 kl kc (n : Int) (n : Int) (by omega) (Int.le_refl _) hb' (by omega)
  rw [Int.toNat_natCast, hi2] at hm
  have hrun : (execOp a.eval o).run P w = .ok (.value (.slice (some ⟨w.heap.size, 0, none⟩) n n)) (w.alloc (.cells (madeCells z.cells (n * sz)) e)) := by
    unfold execOp
    simp only [ho, Sem.run_bind, Sem.run_pure]
    rw [R.ev hx, R.ev hy, hm]
    rfl
  unfold Oper.wp
  rw [hrun]
  have hb : Below w.heap.size w (w.alloc (.cells (madeCells z.cells (n * sz)) e)) := (Below.refl _ _).alloc (Nat.le_refl _) _
  refine ⟨fun _ => hb, _, _, h w.heap.size, ?_⟩
  have R' := R.put o.dst (.slice (some ⟨w.heap.size, 0, none⟩) n n)
  exact ⟨R'.df, R'.size, R'.fr, R.chg.trans (Chg.of_below hb), R.heap.alloc R.chg k _ e⟩
theorem made_const {c : Value} {z : Array Value} {n : Nat} (hz : ∀ u ∈ z, u = c) (h0 : z.size ≠ 0) : (madeCells z n).toList = List.replicate n c := by
  unfold madeCells
  rw [Array.toList_map]
  apply List.eq_replicate_iff.2
  refine ⟨by simp, fun u hu => ?_⟩
  obtain ⟨i, hi, rfl⟩ := List.mem_map.1 hu
  have hlt : i % z.size < z.size := Nat.mod_lt _ (by omega)
  rw [getElem!_pos z _ hlt]
  exact hz _ (Array.getElem_mem hlt)
/-! ### append -/
/-- What an append puts behind: m cells, from wherever they come. -/
def Src (P : Program) (E : Env) (fr : Fr) (H : Hp) (sz : Nat) (y : Operand) (m : Nat) (news : List Value) : Prop :=
  ∀ a w, Rep E fr H a w → (Builtin.lenOf (a.eval y)).run P w = .ok m w ∧ (Builtin.firstCells sz m (a.eval y)).run P w = .ok news.toArray w ∧ news.length = m * sz
theorem Src.nil {sz c : Nat} (hy : fr.ev y = some (.slice none 0 c)) : Src P E fr H sz y 0 [] := by
  intro a w R
  rw [R.ev hy]
  simp [Builtin.lenOf, Builtin.firstCells]
theorem Src.row {sz m c b q k j : Nat} {A : Option Addr} {r : Row} {news : List Value} (hy : fr.ev y = some (.slice A m c)) (hA : 0 < m → A = some ⟨b, q, none⟩) (hk : 0 < m → H k = some r ∧ r.b = b ∧ r.s + j = q) (hn : (r.cells.drop j).take (m * sz) = news) (hl : news.length = m * sz) : Src P E fr H sz y m news := by
  intro a w R
  rw [R.ev hy]
  refine ⟨by simp [Builtin.lenOf], ?_, hl⟩
  by_cases h0 : m = 0
  · subst h0
    have : news = [] := List.eq_nil_of_length_eq_zero (by simpa using hl)
    subst this
    cases A <;> simp [Builtin.firstCells, loadCells, loadCellsFrom]
  · obtain ⟨h1, h2, h3⟩ := hk (by omega)
    rw [hA (by omega)]
    subst h2 h3
    have := run_loadCells_list (P := P) (w := w) ⟨r.b, r.s + j, none⟩ news (fun i v hi => by
      rw [add_addr, Nat.add_assoc]
      refine R.heap.cell R.chg h1 ?_
      rw [← hn, List.getElem?_take] at hi
      rw [← List.getElem?_drop]
      split at hi
      · exact hi
      · cases hi)
    rw [hl] at this
    simp [Builtin.firstCells, this]
theorem Src.str {s : ByteArray} (hy : fr.ev y = some (.string s)) : Src P E fr H 1 y s.size (s.data.toList.map fun b => .int .u8 b.toNat) := by
  intro a w R
  rw [R.ev hy]
  refine ⟨by simp [Builtin.lenOf], ?_, by simp⟩
  simp only [Builtin.firstCells, Sem.run_pure]
  congr 1
  apply Array.ext'
  simp
theorem size_zeroCells' (z : Array Value) (n : Nat) : (Builtin.zeroCells z n).size = n * z.size := by simp [Builtin.zeroCells]
theorem run_append_room {t tx ty e : TypeId} {D : TypeDesc} {sz n c m : Nat} {A : Option Addr} {yv : Value} {news : List Value} {w w' : World} (ht : P.underlying t = some (.slice e)) (htx : P.underlying tx = some D) (hD : D = .string ∨ ∃ e', D = .slice e') (hz : tsz P e = some sz)
    (s1 : (Builtin.lenOf yv).run P w = .ok m w) (s2 : (Builtin.firstCells sz m yv).run P w = .ok news.toArray w) (hroom : n + m ≤ c)
    (hst : (match A with | some a => storeCells (a.add (n * sz)) news | none => pure ()).run P w = .ok () w') :
    (Builtin.append_ #[t, tx] ty #[.slice A n c, yv]).run P w = .ok (.slice A (n + m) c) w' := by
  rcases hD with rfl | ⟨e', rfl⟩
  all_goals
    cases A with
    | none =>
      have hw : w = w' := by simpa using hst
      subst hw
      simp [Builtin.append_, run_underlying ht, run_underlying htx, run_tsz hz, s1, s2, hroom]
    | some a =>
      dsimp only at hst
      simp [Builtin.append_, run_underlying ht, run_underlying htx, run_tsz hz, s1, s2, hroom, hst]
theorem run_append_grow {t tx ty e : TypeId} {D : TypeDesc} {sz by_ n c m : Nat} {A : Option Addr} {yv z : Value} {olds news : List Value} {w : World} (ht : P.underlying t = some (.slice e)) (htx : P.underlying tx = some D) (hD : D = .string ∨ ∃ e', D = .slice e') (hz : tsz P e = some sz) (hby : tby P e = some by_) (hzz : tze P e = some z)
    (s1 : (Builtin.lenOf yv).run P w = .ok m w) (s2 : (Builtin.firstCells sz m yv).run P w.drew = .ok news.toArray w.drew) (s3 : (Builtin.firstCells sz n (.slice A n c)).run P w.drew = .ok olds.toArray w.drew) (hroom : c < n + m)
    (hmax : n + m ≤ 140737488355328) (hbytes : (n + m) * by_ ≤ 140737488355328) :
    ∃ c', n + m ≤ c' ∧ (Builtin.append_ #[t, tx] ty #[.slice A n c, yv]).run P w = .ok (.slice (some ⟨w.heap.size, 0, none⟩) (n + m) c') (w.drew.alloc (.cells (olds.toArray ++ news.toArray ++ Builtin.zeroCells z.cells (c' - (n + m))) e)) := by
  obtain ⟨it, hi0, hi1⟩ := Option.map_eq_some_iff.1 (show (P.info? e).map (·.bytes) = _ from hby)
  have hn : ¬ (n + m ≤ c) := by omega
  have h63 : ¬ (9223372036854775807 < ((n : Int) + (m : Int))) := by omega
  have h48 := growslice_fits hroom hbytes
  have h48' : ¬ (281474976710656 < Builtin.nextslicecap (n + m) c * it.bytes) := by rw [hi1]; omega
  refine ⟨grownCap w (n + m) c e, grownCap_ge _ _ _ _, ?_⟩
  rcases hD with rfl | ⟨e', rfl⟩
  · simp [Builtin.append_, run_underlying ht, run_underlying htx, run_tsz hz, run_tze hzz, typeInfo, hi0, s1, s2, s3, hn, h63, h48', Question.forced, newRow, grownCap]
    congr 2; apply Array.ext'; simp
  · simp [Builtin.append_, run_underlying ht, run_underlying htx, run_tsz hz, run_tze hzz, typeInfo, hi0, s1, s2, s3, hn, h63, h48', Question.forced, newRow, grownCap]
    congr 2; apply Array.ext'; simp
theorem exec_append {t tx : TypeId} (ho : o.op = .call ⟨.builtin .append, #[x, y], #[t, tx]⟩) {a : Act} {r : Value} {w w' : World} (h : (Builtin.append_ #[t, tx] o.type #[a.eval x, a.eval y]).run P w = .ok r w') : (execOp a.eval o).run P w = .ok (.value r) w' := by
  unfold execOp
  simp [ho, resolve, invoke, builtin, h]
theorem HR.empty {w : World} (h : HR E H w) (k b : Nat) (t : TypeId) : HR E (H.set k ⟨true, b, 0, t, [], 0⟩) w := by
  refine ⟨fun i r hr => ?_, fun i j r r' hr hr' ho ho' hij hz hz' => ?_⟩
  · rcases Hp.set_some hr with ⟨rfl, rfl⟩ | ⟨_, hr⟩
    · exact ⟨rfl, fun h => absurd rfl h⟩
    · exact h.row i r hr
  · rcases Hp.set_some hr with ⟨e1, e2⟩ | ⟨h1, hr1⟩ <;> rcases Hp.set_some hr' with ⟨e3, e4⟩ | ⟨h2, hr2⟩
    · exact absurd (e1.trans e3.symm) hij
    · subst e2; exact absurd rfl hz
    · subst e4; exact absurd rfl hz'
    · exact h.apart i j r r' hr1 hr2 ho ho' hij hz hz'
/-- append: the block that was there, or a new one. -/
theorem S_append (d : Option Tmp) (k : Nat) {t tx e : TypeId} {D : TypeDesc} {sz by_ b n c m rest : Nat} {A : Option Addr} {z : Value} {cells news : List Value} {K : Fr → Hp → Prop}
    (ho : o.op = .call ⟨.builtin .append, #[x, y], #[t, tx]⟩) (ht : P.underlying t = some (.slice e)) (htx : P.underlying tx = some D) (hD : D = .string ∨ ∃ e', D = .slice e') (hz : tsz P e = some sz) (hby : tby P e = some by_) (hzz : tze P e = some z) (hzc : z.cells.size = sz)
    (hx : fr.ev x = some (.slice A n c)) (hk : 0 < c → A = some ⟨b, 0, none⟩ ∧ H k = some ⟨true, b, 0, e, cells, rest⟩) (hlen : cells.length = n * sz) (hcap : n * sz + rest = c * sz) (hnc : n ≤ c)
    (hs : Src P E fr H sz y m news) (h1 : ∀ u ∈ news, u.oneCell' = true) (hsz : 0 < sz) (hmax : n + m ≤ 140737488355328) (hbytes : (n + m) * by_ ≤ 140737488355328)
    (h : ∀ (A' : Option Addr) (b' c' : Nat), (0 < c' → A' = some ⟨b', 0, none⟩) → n + m ≤ c' → K (fr.put E.n d (.slice A' (n + m) c')) (H.set k ⟨true, b', 0, e, cells ++ news, (c' - (n + m)) * sz⟩)) (hd : o.dst = d := by rfl) : SStep P E true fr H o K := by
  subst hd
  intro a w R
  obtain ⟨s1, s2, s3⟩ := hs a w R
  by_cases hroom : n + m ≤ c
  · by_cases hc0 : c = 0
    · subst hc0
      have hn0 : n = 0 := by omega
      have hm0 : m = 0 := by omega
      subst hn0 hm0
      have hnews : news = [] := List.eq_nil_of_length_eq_zero (by simpa using s3)
      have hcells : cells = [] := List.eq_nil_of_length_eq_zero (by simpa using hlen)
      subst hnews hcells
      have hrun := exec_append ho (a := a) (P := P) (w := w) (by
        rw [R.ev hx]
        exact run_append_room (D := D) ht htx hD hz s1 s2 hroom (w' := w) (by cases A <;> rfl))
      unfold Oper.wp
      rw [hrun]
      refine ⟨fun hh => (by cases hh), _, _, h A w.heap.size 0 (fun h => absurd h (by omega)) (Nat.le_refl _), ?_⟩
      have R' := R.put o.dst (.slice A 0 0)
      refine ⟨R'.df, R'.size, R'.fr, R.chg, ?_⟩
      simpa using R.heap.empty k w.heap.size e
    · obtain ⟨hA, hH⟩ := hk (by omega)
      have hcs : 0 < c * sz := Nat.mul_pos (by omega) hsz
      have hz0 : cells.length + rest ≠ 0 := by omega
      have hms : (n + m) * sz ≤ c * sz := Nat.mul_le_mul_right _ hroom
      rw [Nat.add_mul] at hms
      obtain ⟨_, e2, e3, tl, fz, e4, e5, e6⟩ := R.heap.own_ hH rfl hz0
      dsimp only at e2 e3 e4 e5 e6
      obtain ⟨w', r1, r2, r3⟩ := run_stores (P := P) b (n * sz) e fz news 0 (cells ++ tl) w e6 (by simp; omega) (by rcases e5 with e5 | e5; exact Or.inl e5; right; simp; omega) h1
      have hrun := exec_append ho (a := a) (P := P) (w := w) (by
        rw [R.ev hx]
        exact run_append_room (D := D) (A := A) ht htx hD hz s1 s2 hroom (w' := w') (by
          subst hA
          dsimp only
          rw [add_addr, Nat.zero_add]
          exact r1))
      unfold Oper.wp
      rw [hrun]
      refine ⟨fun hh => (by cases hh), _, _, h A b c (fun _ => hA) hroom, ?_⟩
      have R' := R.put o.dst (.slice A (n + m) c)
      refine ⟨R'.df, R'.size, R'.fr, R.chg.trans_new r2 ?_, ?_⟩
      · intro q hq
        obtain rfl : q = b := by simpa using hq
        exact e3
      · have hsub : (c - (n + m)) * sz = c * sz - (n * sz + m * sz) := by rw [Nat.sub_mul, Nat.add_mul]
        refine R.heap.write (r := ⟨true, b, 0, e, cells, rest⟩) hH rfl hz0 (by dsimp only; rw [List.length_append, s3, hsub]; omega) r2 fun tl' fz' ht' hh' => ?_
        dsimp only at hh' ht' ⊢
        rw [e6] at hh'
        simp only [Option.some.injEq, Obj.cells.injEq] at hh'
        obtain ⟨g1, _, g3⟩ := hh'
        have g1 : cells ++ tl = cells ++ tl' := by simpa using g1
        have g1 := List.append_cancel_left g1
        subst g1 g3
        refine ⟨tl.drop (m * sz), by rw [List.length_drop, e4, hsub]; omega, ?_⟩
        rw [r3, Nat.add_zero]
        have : splice (cells ++ tl) (n * sz) news = cells ++ news ++ tl.drop (m * sz) := by
          unfold splice
          rw [← hlen, List.take_left, List.drop_append, List.drop_eq_nil_of_le (by omega), s3]
          simp [hlen]
        rw [this]
  · have hold : (Builtin.firstCells sz n (.slice A n c)).run P w.drew = .ok cells.toArray w.drew := by
      by_cases hc0 : c = 0
      · subst hc0
        have hn0 : n = 0 := by omega
        subst hn0
        have hcells : cells = [] := List.eq_nil_of_length_eq_zero (by simpa using hlen)
        subst hcells
        cases A <;> simp [Builtin.firstCells, loadCells, loadCellsFrom]
      · obtain ⟨hA, hH⟩ := hk (by omega)
        subst hA
        have := run_loadCells_list (P := P) (w := w.drew) ⟨b, 0, none⟩ cells (fun i v hi => by
          rw [add_addr]
          exact R.drew.heap.cell R.drew.chg hH hi)
        rw [hlen] at this
        simp [Builtin.firstCells, this]
    obtain ⟨c', hc', hr⟩ := run_append_grow (P := P) (ty := o.type) (A := A) ht htx hD hz hby hzz s1 (hs a w.drew R.drew).2.1 hold (by omega) hmax hbytes
    have hrun := exec_append ho (a := a) (P := P) (w := w) (by rw [R.ev hx]; exact hr)
    unfold Oper.wp
    rw [hrun]
    refine ⟨fun hh => (by cases hh), _, _, h (some ⟨w.heap.size, 0, none⟩) w.heap.size c' (fun _ => rfl) hc', ?_⟩
    have R' := R.put o.dst (.slice (some ⟨w.heap.size, 0, none⟩) (n + m) c')
    have hb : Below w.heap.size w (w.drew.alloc (.cells (cells.toArray ++ news.toArray ++ Builtin.zeroCells z.cells (c' - (n + m))) e)) := (Below.refl _ _).drew.alloc (Nat.le_refl _) _
    refine ⟨R'.df, R'.size, R'.fr, R.chg.trans (Chg.of_below hb), ?_⟩
    have := R.heap.new R.chg hb k (cells ++ news) (Builtin.zeroCells z.cells (c' - (n + m))).toList e (0, 0) (Or.inl rfl) w.heap.size (Nat.le_refl _) (by simp) (by
      have := heap_alloc_new w.drew (.cells (cells.toArray ++ news.toArray ++ Builtin.zeroCells z.cells (c' - (n + m))) e)
      rw [World.size_drew] at this
      rw [this]
      simp)
    rw [Array.length_toList, size_zeroCells', hzc] at this
    exact this
end
end SE
end Go
