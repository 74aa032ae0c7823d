import Derived.Test.YtablmdbonibjaaaDoorRV2
import Derived.Test.YtablmdbonibjaaaDoorSE35
namespace Go.Proofs.YtablmdbonibjaaaDoor
set_option maxRecDepth 20000
set_option linter.unusedVariables false
set_option linter.unusedSimpArgs false
open Go.SE Go.RowKit
attribute [local irreducible] macS sumS labS expS sealS openT openE openOk aTag streamS
attribute [local irreducible] dkS dvS nnS nnI hdR rsT rsB rsE rpT rpE roE roK roT roX roO kdOk trN trL trK inR
def partsTo (l : List (BitVec 8)) (i : Nat) : List (List (BitVec 8)) := (List.range i).map fun j => (l.drop (j * 256)).take 256
def partsS (l : List (BitVec 8)) : List (List (BitVec 8)) := partsTo l ((l.length + 256 - 1) / 256)
theorem partsTo_len (l : List (BitVec 8)) (i : Nat) : (partsTo l i).length = i := by simp [partsTo]
theorem partsTo_succ (l : List (BitVec 8)) (i : Nat) : partsTo l (i + 1) = partsTo l i ++ [(l.drop (i * 256)).take 256] := by simp [partsTo, List.range_succ]
theorem parts_at {es : List BE} {l : List (BitVec 8)} {m i : Nat} (h : es.map BE.l = partsTo l m) (hi : i < es.length) : (es.getD i default).l = (l.drop (i * 256)).take 256 := by
 have hm : es.length = m := by have := congrArg List.length h; rwa [List.length_map, partsTo_len] at this
 have h1 := congrArg (fun z : List (List (BitVec 8)) => z[i]?) h
 simp only [List.getElem?_map, partsTo] at h1
 rw [List.getElem?_range (by omega), List.getElem?_eq_getElem hi] at h1
 rw [List.getD_eq_getElem?_getD, List.getElem?_eq_getElem hi]
 simpa using h1
theorem chunk_part (l : List (BitVec 8)) {n i : Nat} (h : l.length = n) : (l.drop (i * 256)).take (min 256 (n - i * 256)) = (l.drop (i * 256)).take 256 := by
 rw [← List.take_take, List.take_of_length_le (l := l.drop (i * 256)) (by rw [List.length_drop]; omega)]

set_option maxHeartbeats 2000000 in
theorem c_Parts {b : List (BitVec 8)} {Ab : Option Addr} {nb cb bb qb : Nat} (hnb : b.length = nb) (hAb : 0 < nb → Ab = some ⟨bb, qb, none⟩) (hcb : nb ≤ cb) (hl : nb ≤ 1000000) :
  Con Tryd.prog 26 [.slice Ab nb cb] [pRow bb qb b] (fun v rs => ∃ (es : List BE) (A' : Option Addr) (b' c' : Nat), (0 < c' → A' = some ⟨b', 0, none⟩) ∧ es.length ≤ c' ∧ (∀ e ∈ es, e.ok) ∧ es.map BE.l = partsS b ∧ v = .slice A' es.length c' ∧ rs = [⟨true, b', 0, 29, es.map BE.v, c' - es.length⟩] ++ es.map (BE.row 5)) := by
 refine Con.enterM Tryd.func26 Tryd.ntmps26 (Nat.le_of_ble_eq_true rfl) rfl fun w hS => ?_
 refine At.seq ?_
 refine At.region ?_
 refine At.p (some 2) (P_assign rfl rfl) ?_
 refine At.nil ?_
 refine At.next ?_
 refine At.seq ?_
 refine At.region ?_
 refine At.s (S_alloc (some 3) 3 (zs := [.slice none 0 0]) rfl ze58 rfl (fun b3 => ?_))
 refine At.nil ?_
 refine At.next ?_
 refine At.seq ?_
 refine At.seq ?_
 refine At.region ?_
 refine At.p (some 5) (P_move rfl rfl) ?_
 refine At.s (S_callV (some 6) [] [5, 6] (vs := [_, _]) rfl en39 rfl V0 (by simp) (c_Chunk Ab nb cb 256 (by decide)) (by rintro _ _ ⟨bs, bn, rfl, rfl⟩; rfl) ?_)
 rintro _ _ ⟨bs, bn, rfl, rfl⟩
 refine At.nil ?_
 refine At.next ?_
 refine At.block ?_
 refine At.empty 4 0 29 ?_
 refine At.toM [(0, .slice Ab nb cb), (2, .slice none 0 0), (3, ptr b3 0), (5, .slice Ab nb cb), (6, .func (.func 51) #[] #[ptr bs 0, ptr bn 0])] [(0, pRow bb qb b), (3, ⟨true, b3, 0, 58, [.slice none 0 0], 0⟩), (4, ⟨true, 0, 0, 29, (([] : List BE)).map BE.v, 0⟩), (5, ⟨true, bs, 0, 29, [.slice Ab nb cb], 0⟩), (6, ⟨true, bn, 0, 3, [iV ((256 : Nat) : Int)], 0⟩)] [] (AllL.cons_ rfl (AllL.cons_ rfl (AllL.cons_ rfl (AllL.cons_ rfl (AllL.cons_ rfl trivial))))) (AllL.cons_ rfl (AllL.cons_ rfl (AllL.cons_ rfl (AllL.cons_ rfl (AllL.cons_ rfl trivial))))) trivial ?_
 refine At.famNew 100000 (fun i => (([] : List BE).getD i default).row 5) ?_
 refine At.toM [(0, _), (2, _), (3, _), (5, _), (6, _)] [(0, _), (3, _), (4, _), (5, _), (6, _)] [famB 100000 5 ([] : List BE)] (AllL.cons_ (rfl) (AllL.cons_ (rfl) (AllL.cons_ (rfl) (AllL.cons_ (rfl) (AllL.cons_ (rfl) trivial))))) (AllL.cons_ (rfl) (AllL.cons_ (rfl) (AllL.cons_ (rfl) (AllL.cons_ (rfl) (AllL.cons_ (rfl) trivial))))) (AllL.cons_ FK trivial) ?_
 refine At.range (C2 bs bn (.slice Ab nb cb) (iV ((256 : Nat) : Int))) (it_Chunk Ab nb cb 256 bs bn (by decide) hcb (by omega) (by decide)) (fun i H => ∃ (es : List BE) (A2 : Option Addr) (b2 : Nat) (c2 : Nat), H = famsOf (hOf [(0, pRow bb qb b), (3, ⟨true, b3, 0, 58, [.slice A2 es.length c2], 0⟩), (4, ⟨true, b2, 0, 29, (es).map BE.v, c2 - (es).length⟩), (5, ⟨true, bs, 0, 29, [.slice Ab nb cb], 0⟩), (6, ⟨true, bn, 0, 3, [iV ((256 : Nat) : Int)], 0⟩)]) [famB 100000 5 es] ∧ (0 < c2 → A2 = some ⟨b2, 0, none⟩) ∧ (es.length ≤ c2) ∧ (∀ e ∈ es, e.ok) ∧ (es.map BE.l = partsTo b i)) (fun H => False) (fun x => frOf [(0, .slice Ab nb cb), (2, .slice none 0 0), (3, ptr b3 0), (5, .slice Ab nb cb), (6, .func (.func 51) #[] #[ptr bs 0, ptr bn 0]), (4, x)]) rfl en51 rfl hS ?_ ?_ ?_ ?_ ?_ ?_
 ·
  rintro i _ w ⟨es, A2, b2, c2, rfl, hA2, hc2, hes, hp⟩ hc hh
  exact ⟨hh.cell hc (k := 5) (j := 0) rfl rfl, hh.cell hc (k := 6) (j := 0) rfl rfl⟩
 · exact ⟨([] : List BE), none, 0, 0, rfl, (fun h => absurd h (Nat.lt_irrefl 0)), (Nat.le_refl _), (fun e he => nomatch he), rfl⟩
 ·
  intro lR nR wbR XR x H' K hKa
  refine At.regionR (fun ⟨_, _, h⟩ => h) ?_
  refine At.p (some 4) (P_assign rfl rfl) ?_
  refine At.nil ?_
  refine At.next ?_
  exact At.toF [(0, _), (2, _), (3, _), (5, _), (6, _), (4, _)] (AllL.cons_ (rfl) (AllL.cons_ (rfl) (AllL.cons_ (rfl) (AllL.cons_ (rfl) (AllL.cons_ (rfl) (AllL.cons_ (rfl) trivial)))))) hKa
 ·
  rintro lR nR wbR XR i x _ hx ⟨es, A2, b2, c2, rfl, hA2, hc2, hes, hp⟩ Q' hK hR hno
  obtain ⟨hlt, rfl⟩ := chunksV_some (by decide) hx
  have hel : es.length = i := by have h9 := congrArg List.length hp; rwa [List.length_map, partsTo_len] at h9
  refine At.blockR ?_
  refine At.drawsR 4 [] [.q false [0, 1], .e false 2, .e false 3] (by kernel_rfl) (by kernel_rfl) (fun ⟨a, w, h⟩ => hno a w h) ?_
  refine At.wq (some 8) (Q_loadO (k := 3) rfl rfl Tryd.underlying58 rfl rfl rfl) ?_
  refine At.wp (some 9) (P_move rfl rfl) ?_
  refine At.wqn ?_
  refine At.we ?_
  refine SStep.up (S_callV (some 10) [(0, _)] [10] (vs := [_]) rfl en28 rfl (VN (by simp) rfl (View.sub (j := (i * 256)) (m := (min 256 (nb - i * 256))) rfl rfl) V0) (by simp) (c_BClone (b := ((b.drop (i * 256)).take (min 256 (nb - i * 256)))) (nb := (min 256 (nb - i * 256))) (Ab := (Ab.map (·.add (i * 256)))) (cb := (min 256 (nb - i * 256))) (bb := bb) (qb := (qb + i * 256)) LN (fun h => chunk_addr (hAb (by omega)) _) OG) (by rintro _ _ ⟨A10, b10, c10, g10a, g10b, rfl, rfl⟩; rfl) ?_)
  rintro _ _ ⟨A10, b10, c10, g10a, g10b, rfl, rfl⟩
  refine At.we ?_
  refine S_buildSliceV (some 11) 11 (([(BE.mk A10 b10 c10 ((b.drop (i * 256)).take (min 256 (nb - i * 256))))]).map BE.v) rfl Tryd.underlying58 sz29 ze29 rfl rfl (by decide) (by decide) rfl rfl (fun b11 => ?_)
  refine At.wt rfl ?_
  refine At.s (S_appendM (some 12) 4 ((es ++ [(BE.mk A10 b10 c10 ((b.drop (i * 256)).take (min 256 (nb - i * 256))))])) (f := BE.v) (l := es) (L := [(BE.mk A10 b10 c10 ((b.drop (i * 256)).take (min 256 (nb - i * 256))))]) (m := 1) rfl Tryd.underlying58 Tryd.underlying58 (.inr ⟨_, rfl⟩) sz29 by29 ze29 rfl rfl (fun h => ⟨(fun h => hA2 (by omega)) h, rfl⟩) LN OG (Src.all (k := 11) (l := [(BE.mk A10 b10 c10 ((b.drop (i * 256)).take (min 256 (nb - i * 256))))]) rfl (fun _ => rfl) (fun _ => ⟨rfl, rfl, rfl⟩) LN) (fun _ => rfl) OG OG rfl LN ?_)
  intro A12 b12 c12 g12a g12b
  refine At.s (S_store none (k := 3) rfl rfl rfl sz58 rfl rfl rfl LN ?_)
  refine At.nil ?_
  refine At.inb_n ?_
  refine At.toM [(0, .slice Ab nb cb), (2, .slice none 0 0), (3, ptr b3 0), (4, .slice (Ab.map (·.add (i * 256))) (min 256 (nb - i * 256)) (min 256 (nb - i * 256))), (5, .slice Ab nb cb), (6, .func (.func 51) #[] #[ptr bs 0, ptr bn 0]), (8, .slice A2 es.length c2), (9, .slice (Ab.map (·.add (i * 256))) (min 256 (nb - i * 256)) (min 256 (nb - i * 256))), (10, .slice A10 (((b.drop (i * 256)).take (min 256 (nb - i * 256))).length) c10), (11, .slice (some ⟨b11, 0, none⟩) 1 1), (12, .slice A12 ((es ++ [(BE.mk A10 b10 c10 ((b.drop (i * 256)).take (min 256 (nb - i * 256))))]).length) c12)] [(10, ⟨true, b10, 0, 5, (((b.drop (i * 256)).take (min 256 (nb - i * 256)))).map u8V, c10 - (((b.drop (i * 256)).take (min 256 (nb - i * 256)))).length⟩), (0, pRow bb qb b), (3, ⟨true, b3, 0, 58, [.slice A12 ((es ++ [(BE.mk A10 b10 c10 ((b.drop (i * 256)).take (min 256 (nb - i * 256))))]).length) c12], 0⟩), (4, ⟨true, b12, 0, 29, ((es ++ [(BE.mk A10 b10 c10 ((b.drop (i * 256)).take (min 256 (nb - i * 256))))])).map BE.v, c12 - ((es ++ [(BE.mk A10 b10 c10 ((b.drop (i * 256)).take (min 256 (nb - i * 256))))])).length⟩), (5, ⟨true, bs, 0, 29, [.slice Ab nb cb], 0⟩), (6, ⟨true, bn, 0, 3, [iV ((256 : Nat) : Int)], 0⟩), (11, ⟨true, b11, 0, 29, ([(BE.mk A10 b10 c10 ((b.drop (i * 256)).take (min 256 (nb - i * 256))))]).map BE.v, 0⟩)] [famB 100000 5 es] (AllL.cons_ rfl (AllL.cons_ rfl (AllL.cons_ rfl (AllL.cons_ rfl (AllL.cons_ rfl (AllL.cons_ rfl (AllL.cons_ rfl (AllL.cons_ rfl (AllL.cons_ rfl (AllL.cons_ rfl (AllL.cons_ rfl trivial))))))))))) (AllL.cons_ rfl (AllL.cons_ rfl (AllL.cons_ rfl (AllL.cons_ rfl (AllL.cons_ rfl (AllL.cons_ rfl (AllL.cons_ rfl trivial))))))) (AllL.cons_ FK trivial) ?_
  refine At.famPush (BE.mk A10 b10 c10 ((b.drop (i * 256)).take (min 256 (nb - i * 256)))) (AllL.cons_ rfl (AllL.cons_ rfl (AllL.cons_ rfl (AllL.cons_ rfl (AllL.cons_ rfl (AllL.cons_ rfl trivial)))))) rfl trivial ?_
  refine At.toM [] [(0, _), (3, _), (4, _), (5, _), (6, _)] [famB 100000 5 (es ++ [(BE.mk A10 b10 c10 ((b.drop (i * 256)).take (min 256 (nb - i * 256))))])] trivial (AllL.cons_ (rfl) (AllL.cons_ (rfl) (AllL.cons_ (rfl) (AllL.cons_ (rfl) (AllL.cons_ (rfl) trivial))))) (AllL.cons_ FK trivial) ?_
  exact hK _ _ ⟨(es ++ [(BE.mk A10 b10 c10 ((b.drop (i * 256)).take (min 256 (nb - i * 256))))]), A12, b12, c12, rfl, g12a, (by first | assumption | (simp at g12b ⊢; omega)), (BE.okP hes ⟨g10a, g10b⟩), (by rw [List.map_append, hp, partsTo_succ]; exact congrArg (fun z => partsTo b i ++ [z]) (chunk_part b hnb))⟩
 ·
  rintro D w1 hX hD _ ⟨es, A2, b2, c2, rfl, hA2, hc2, hes, hp⟩
  rw [chunksV_len] at hp
  refine At.inb_n ?_
  refine At.next ?_
  refine At.seq ?_
  refine At.region ?_
  refine At.q (some 13) (Q_loadO (k := 3) rfl rfl Tryd.underlying58 rfl rfl rfl) ?_
  refine At.p (some 2) (P_assign rfl rfl) ?_
  refine At.nil ?_
  refine At.next ?_
  refine At.ret ?_
  refine At.giveM hX hD (.inl rfl) ([4] ++ famK 100000 es.length) (rows' := [_] ++ es.map (BE.row 5)) (ResV.tmps (vs := [_]) rfl ⟨rfl, trivial⟩) (give_fam rfl FK) (famK_app (by simp) rfl) (own_fam (by simp)) ?_
  exact ⟨es, A2, b2, c2, hA2, hc2, hes, by rw [hp, partsS, hnb], rfl, rfl⟩
 ·
  intro D w1 hX hD H' hr
  exact hr.elim


end Go.Proofs.YtablmdbonibjaaaDoor
