import Derived.MapKept
import Derived.SizedLaws
import Derived.Test.YtcjfkmhijfcciaaG0
/- Maps of integers to true. -/
namespace Go
namespace SE
open Go.RowKit
set_option linter.unusedVariables false
set_option linter.unusedSimpArgs false
theorem pr_inj : ∀ {a a' b b' : Nat}, 2 ^ a * (2 * b + 1) = 2 ^ a' * (2 * b' + 1) → a = a' ∧ b = b'
 | 0, 0, b, b', h => by simp at h; omega
 | 0, a' + 1, b, b', h => by
  rw [Nat.pow_succ, Nat.mul_comm (2 ^ a') 2, Nat.mul_assoc] at h
  simp at h
  omega
 | a + 1, 0, b, b', h => by
  rw [Nat.pow_succ, Nat.mul_comm (2 ^ a) 2, Nat.mul_assoc] at h
  simp at h
  omega
 | a + 1, a' + 1, b, b', h => by
  rw [Nat.pow_succ, Nat.mul_comm (2 ^ a) 2, Nat.mul_assoc, Nat.pow_succ, Nat.mul_comm (2 ^ a') 2, Nat.mul_assoc] at h
  obtain ⟨h1, h2⟩ := pr_inj (Nat.eq_of_mul_eq_mul_left (by decide) h)
  exact ⟨by omega, h2⟩
theorem zig_inj {x y : Int} (h : zig x = zig y) : x = y := by
 cases x <;> cases y <;> simp [zig] at h ⊢ <;> omega
theorem mcode_inj : ∀ {U V : List Int}, mcode U = mcode V → U = V
 | [], [], _ => rfl
 | [], y :: V, h => by
  have := Nat.two_pow_pos (zig y)
  have h2 : 2 ^ zig y * (2 * mcode V + 1) ≠ 0 := Nat.mul_ne_zero (by omega) (by omega)
  exact absurd h.symm h2
 | x :: U, [], h => by
  have := Nat.two_pow_pos (zig x)
  have h2 : 2 ^ zig x * (2 * mcode U + 1) ≠ 0 := Nat.mul_ne_zero (by omega) (by omega)
  exact absurd h h2
 | x :: U, y :: V, h => by
  obtain ⟨h1, h2⟩ := pr_inj (show 2 ^ zig x * (2 * mcode U + 1) = 2 ^ zig y * (2 * mcode V + 1) from h)
  rw [zig_inj h1, mcode_inj h2]
def mS (U : List Int) : Nat := mcode U + 1
/-- A map's row. -/
def mRow (b : Nat) (U : List Int) : Row := ⟨true, b, mS U, 0, [], 1⟩
section
variable {P : Program} {E : Env} {fr : Fr} {H : Hp} {o : Oper} {t : TypeId} {x y z : Operand} {w : World}
theorem HR.map {k b : Nat} {U : List Int} (h : HR E H w) (hk : H k = some (mRow b U)) : b < w.heap.size ∧ (b ∈ E.S ∨ E.W0.heap.size ≤ b) ∧ ∃ es clock, w.heap[b]? = some (.map es clock) ∧ MapU es U := by
 obtain ⟨h1, h2, h3⟩ := h.ownB_ hk rfl (by simp [mRow])
 refine ⟨h1, h2, ?_⟩
 rcases h3 with ⟨h3, _⟩ | ⟨_, _, V, es, clock, h4, h5, h6⟩
 · exact absurd h3 (by simp [mRow, mS])
 ·
  have h4 : mcode V + 1 = mcode U + 1 := h4
  rw [mcode_inj (by omega : mcode V = mcode U)] at h6
  exact ⟨es, clock, h5, h6⟩
theorem HR.mapSet {w' : World} {k b : Nat} {U V : List Int} (h : HR E H w) (hk : H k = some (mRow b U)) (hc : Chg [b] w w') {es : Array MapEntry} {clock : Nat} (hb : w'.heap[b]? = some (.map es clock)) (hV : MapU es V) : HR E (H.set k (mRow b V)) w' := by
 obtain ⟨h1, h2, _⟩ := h.map hk
 have hlt : b < w'.heap.size := (Array.getElem?_eq_some_iff.1 hb).1
 refine ⟨fun i r hr => ?_, fun i j r r' hr hr' ho ho' hij hz hz' => ?_⟩
 ·
  rcases Hp.set_some hr with ⟨rfl, rfl⟩ | ⟨hne, hr⟩
  · exact ⟨Or.inr rfl, fun _ => ⟨hlt, h2, Or.inr ⟨by simp [mRow, mS], rfl, V, es, clock, rfl, hb, hV⟩⟩⟩
  ·
   refine (h.row i r hr).chg hc fun hxo hxz hm => ?_
   exact h.apart i k r (mRow b U) hr hk hxo rfl hne hxz (by simp [mRow]) (show r.b = b from by simpa using hm)
 ·
  rcases Hp.set_some hr with ⟨e1, e2⟩ | ⟨g1, hr1⟩ <;> rcases Hp.set_some hr' with ⟨e3, e4⟩ | ⟨g2, hr2⟩
  · exact absurd (e1.trans e3.symm) hij
  · subst e1 e2; exact h.apart i j (mRow b U) r' hk hr2 rfl ho' hij (by simp [mRow]) hz'
  · subst e3 e4; exact h.apart i j r (mRow b U) hr1 hk ho rfl hij hz (by simp [mRow])
  · exact h.apart i j r r' hr1 hr2 ho ho' hij hz hz'
theorem HR.mapNew (h : HR E H w) (hw : Chg E.S E.W0 w) (k : Nat) : HR E (H.set k (mRow w.heap.size [])) (w.alloc (.map #[] 0)) := by
 have hb : Below w.heap.size w (w.alloc (.map #[] 0)) := (Below.refl _ _).alloc (Nat.le_refl _) _
 refine ⟨fun i r hr => ?_, fun i j r r' hr hr' ho ho' hij hz hz' => ?_⟩
 ·
  rcases Hp.set_some hr with ⟨rfl, rfl⟩ | ⟨_, hr⟩
  · exact ⟨Or.inr rfl, fun _ => ⟨by simp [mRow], Or.inr hw.size, Or.inr ⟨by simp [mRow, mS], rfl, [], #[], 0, rfl, by simpa [mRow] using heap_alloc_new w (.map #[] 0), rfl⟩⟩⟩
  · exact (h.below hb).row i r hr
 ·
  rcases Hp.set_some hr with ⟨e1, e2⟩ | ⟨g1, hr1⟩ <;> rcases Hp.set_some hr' with ⟨e3, e4⟩ | ⟨g2, hr2⟩
  · exact absurd (e1.trans e3.symm) hij
  · have := (h.ownB_ hr2 ho' hz').1; subst e2; show w.heap.size ≠ _; omega
  · have := (h.ownB_ hr1 ho hz).1; subst e4; show _ ≠ w.heap.size; omega
  · exact h.apart i j r r' hr1 hr2 ho ho' hij hz hz'
/-- make(map[int]bool) -/
theorem S_makeMap (d : Option Tmp) (k : Nat) {K : Fr → Hp → Prop} (ho : o.op = .makeMap t none) (h : ∀ b, K (fr.put E.n d (.map (some b))) (H.set k (mRow b []))) (hd : o.dst = d := by rfl) : SStep P E false fr H o K := by
 subst hd
 intro a w R
 unfold Oper.wp execOp
 simp [ho, Instr.makeMap, newObj, Oper.upon]
 have hb : Below w.heap.size w (w.alloc (.map #[] 0)) := (Below.refl _ _).alloc (Nat.le_refl _) _
 refine ⟨hb, _, _, h w.heap.size, ?_⟩
 have R' := R.put o.dst (.map (some w.heap.size))
 exact ⟨R'.df, R'.size, R'.fr, R.chg.trans (Chg.of_below hb), R.heap.mapNew R.chg k⟩
theorem findNow_U (n : Int) : ∀ (es : List MapEntry) (U : List Int) (i : Nat), es.map (fun e => (e.key, e.val)) = U.map (fun x => (Value.int .i64 x, Value.bool true)) →
  (n ∈ U → ∃ j, Instr.findNow (.int .i64) (Value.int .i64 n) es i = some (some (j, .bool true))) ∧ (n ∉ U → Instr.findNow (.int .i64) (Value.int .i64 n) es i = some none)
 | [], [], i, _ => ⟨fun h => by simp at h, fun _ => rfl⟩
 | [], _ :: _, i, h => by simp at h
 | _ :: _, [], i, h => by simp at h
 | e :: es, u :: U, i, h => by
  simp only [List.map_cons, List.cons.injEq, Prod.mk.injEq] at h
  obtain ⟨⟨h1, h2⟩, h3⟩ := h
  obtain ⟨g1, g2⟩ := findNow_U n es U (i + 1) h3
  have hs : Instr.sameNow (.int .i64) (Value.int .i64 n) e.key = some (n == u) := by rw [h1]; simp [Instr.sameNow]
  by_cases hn : n = u
  ·
   have hb : (n == u) = true := by simp [hn]
   refine ⟨fun _ => ⟨i, ?_⟩, fun hm => absurd (by simp [hn]) hm⟩
   rw [Instr.findNow, hs, hb]
   simp [h2]
  ·
   have hb : (n == u) = false := by simp [hn]
   refine ⟨fun hm => ?_, fun hm => ?_⟩
   ·
    rw [Instr.findNow, hs, hb]
    exact g1 (by simpa [hn] using hm)
   ·
    rw [Instr.findNow, hs, hb]
    exact g2 (fun h => hm (List.mem_cons_of_mem _ h))
/-- m[n] -/
theorem Q_lookup {k b : Nat} {U : List Int} {n : Int} {kt et : TypeId} (ho : o.op = .lookup t x y false) (ht : P.underlying t = some (.map kt et)) (hkt : P.underlying kt = some (.int .i64)) (hz : tze P et = some (.bool false))
  (hx : fr.ev x = some (.map (some b))) (hy : fr.ev y = some (.int .i64 n)) (hk : H k = some (mRow b U)) : QStep P E fr H o (.bool (decide (n ∈ U))) := by
 intro a w R
 obtain ⟨_, _, es, clock, h1, h2⟩ := R.heap.map hk
 obtain ⟨g1, g2⟩ := findNow_U n es.toList U 0 h2
 have hc : (Instr.checkKey es.isEmpty 10000 kt (.int .i64 n)).run P w = .ok () w := MapKept.run_checkKey hkt (k := .int .i64 n) rfl _ 9999
 have run : (Instr.lookup t (.map (some b)) (.int .i64 n) false).run P w = .ok (.bool (decide (n ∈ U))) w := by
  by_cases hn : n ∈ U
  ·
   obtain ⟨j, hj⟩ := g1 hn
   simp [Instr.lookup, run_underlying ht, MapKept.run_getObj_map h1, hc, MapKept.run_findKey hkt hj, Result.andThen, hn]
  · simp [Instr.lookup, run_underlying ht, MapKept.run_getObj_map h1, hc, MapKept.run_findKey hkt (g2 hn), Result.andThen, run_tze hz, hn]
 unfold execOp
 simp [ho, R.ev hx, R.ev hy, run]
/-- m[n] = true, for the first time -/
theorem S_mapUpdate (d : Option Tmp) {k b : Nat} {U : List Int} {n : Int} {kt et : TypeId} {K : Fr → Hp → Prop} (ho : o.op = .mapUpdate t x y z) (ht : P.underlying t = some (.map kt et)) (hkt : P.underlying kt = some (.int .i64))
  (hx : fr.ev x = some (.map (some b))) (hy : fr.ev y = some (.int .i64 n)) (hv : fr.ev z = some (.bool true)) (hk : H k = some (mRow b U)) (hn : n ∉ U) (h : K (fr.put E.n d undef) (H.set k (mRow b (U ++ [n])))) (hd : o.dst = d := by rfl) : SStep P E true fr H o K := by
 subst hd
 intro a w R
 obtain ⟨hlt, hown, es, clock, h1, h2⟩ := R.heap.map hk
 obtain ⟨_, g2⟩ := findNow_U n es.toList U 0 h2
 have hc : (Instr.checkKey false 10000 kt (.int .i64 n)).run P w = .ok () w := MapKept.run_checkKey hkt (k := .int .i64 n) rfl _ 9999
 have run : (Instr.mapUpdate t (.map (some b)) (.int .i64 n) (.bool true)).run P w = .ok () { w with heap := w.heap.setIfInBounds b (.map (es.push { key := .int .i64 n, val := .bool true, born := clock }) (clock + 1)) } := by
  simp [Instr.mapUpdate, run_underlying ht, MapKept.run_getObj_map h1, hc, MapKept.run_findKey hkt (g2 hn), MapKept.run_setObj_map _ h1, Result.andThen]
 unfold Oper.wp execOp
 simp [ho, R.ev hx, R.ev hy, R.ev hv, run, Oper.upon]
 have hc2 : Chg [b] w { w with heap := w.heap.setIfInBounds b (.map (es.push { key := .int .i64 n, val := .bool true, born := clock }) (clock + 1)) } :=
  ⟨rfl, rfl, rfl, by simp, fun q _ hq => by
   have hq : b ≠ q := fun he => hq (by simp [he])
   simp [hq]⟩
 refine ⟨_, _, h, ?_⟩
 have R' := R.put o.dst undef
 refine ⟨R'.df, R'.size, R'.fr, R.chg.trans_new hc2 ?_, ?_⟩
 ·
  intro q hq
  obtain rfl : q = b := by simpa using hq
  exact hown
 ·
  refine R.heap.mapSet (V := U ++ [n]) hk hc2 (MapKept.heap_set h1).1 ?_
  unfold MapU at h2 ⊢
  rw [Array.toList_push, List.map_append, List.map_append, h2]
  rfl
end
end SE
end Go


/- Rows of laws that need the bound that each argument's own bytes have; openers that hand it on. Generic (no program). -/
namespace Go
namespace ROW
open Go.ChangeShapes Go.WideShapes Go.ChangeAt Go.RowKit Go.SE
set_option linter.unusedVariables false
set_option linter.unusedSimpArgs false
end ROW
end Go

