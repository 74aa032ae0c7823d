import Derived.Test.YtdingfinclcbgaaJL2
import Derived.Test.YtdingfinclcbgaaG1
namespace Go.Proofs.Ytdingfinclcbgaa
set_option maxRecDepth 20000
set_option linter.unusedVariables false
set_option linter.unusedSimpArgs false
open Go.SE Go.RowKit
theorem bG1_len {A : Option Addr} {b c n : Nat} {l : List (BitVec 8)} (hl : l.length = n) (h1 : 1 ≤ n) (h2 : n ≤ 46) : ∀ e ∈ [bG A b c l], 1 ≤ e.l.length ∧ e.l.length ≤ 46 := fun e he => by
 rw [List.mem_singleton.1 he]
 show 1 ≤ l.length ∧ l.length ≤ 46
 omega
theorem getD_l (ks : List BG) (k : Nat) : (ks.map BG.l).getD k [] = (ks.getD k default).l := by
 rw [List.getD_eq_getElem?_getD, List.getD_eq_getElem?_getD, List.getElem?_map]
 cases ks[k]? <;> rfl
theorem mod2_toInt (g : BitVec 64) : (g % 2#64).toInt = ((g.toNat % 2 : Nat) : Int) := by
 have h : (g % 2#64).toNat = g.toNat % 2 := by rw [BitVec.toNat_umod]; rfl
 rw [BitVec.toInt_eq_toNat_cond, h, if_pos (by omega)]
theorem lens14 {ks : List BG} (h : ∀ e ∈ ks, 1 ≤ e.l.length ∧ e.l.length ≤ 14) : ∀ i, i < (ks.map BG.l).length → 1 ≤ ((ks.map BG.l).getD i []).length ∧ ((ks.map BG.l).getD i []).length ≤ 14 := fun i hi => by
 rw [getD_l]
 exact h _ (getDG_mem (by simpa using hi))

attribute [local irreducible] sumS
set_option maxHeartbeats 2000000 in
theorem c_mayG {bD bS cD nD rD : Nat} {S : List (BitVec 8)} {wr : Int} {bJ ar : Nat} {gen : BitVec 64} {Aj : Option Addr} {nj cj : Nat} {uj : Int} {es : List BG} {Al : Option Addr} {nl cl bl ql : Nat} {u : Nat} (hSl : S.length = nD * 64) (hn : nD ≤ 512) (hc : nD ≤ cD) (hw : 0 ≤ wr) (hw2 : wr ≤ 4611686018427380000) (h4 : 4 ≤ nD) (hln : es.length = nl) (hAl : 0 < nl → Al = some ⟨bl, ql, none⟩) (he : ∀ e ∈ es, 1 ≤ e.l.length ∧ e.l.length ≤ 46) (hu : u + es.length ≤ (nD - 2) / 2) (hu2 : u ≤ 1000000) (hel2 : es.length ≤ 1000000) :
  Con Try.prog 46 [ptr bJ 0, .slice Al nl cl, iV (u : Int)] [dH false bD bS cD nD wr, rowS false bS S rD, ⟨false, bJ, 0, 82, [ptr bD 0, u64V gen, iV (ar : Int), .slice Aj nj cj, iV uj, .bool false], 0⟩, ⟨false, bl, ql, 0, (es).map BG.v, 0⟩] (fun v rs => v = iV 0 ∧ rs = []) := by
 refine Con.enter Try.func46 Try.ntmps46 (Nat.le_of_ble_eq_true rfl) rfl fun w => ?_
 refine At.seq ?_
 refine At.region ?_
 refine At.p (some 6) (P_assign rfl rfl) ?_
 refine At.nil ?_
 refine At.next ?_
 refine At.seq ?_
 refine At.block ?_
 refine At.seq ?_
 refine At.region ?_
 refine At.p (some 10) (P_move rfl rfl) ?_
 refine At.p (some 11) (P_eql_ptr rfl rfl rfl Try.underlying50) ?_
 refine At.p (some 9) (P_assign rfl rfl) ?_
 refine At.nil ?_
 refine At.next ?_
 refine At.cond rfl (fun h9 => by simp at h9) (fun h9 => ?_)
 refine At.seq ?_
 refine At.region ?_
 refine At.p (some 13) (P_move rfl rfl) ?_
 refine At.p (some 14) (P_nilCheck rfl rfl) ?_
 refine At.p (some 15) (P_fieldAddr0 (off := 5) rfl Try.underlying82 rfl sz4 rfl rfl) ?_
 refine At.q (some 16) (Q_loadO (k := 2) rfl rfl Try.underlying4 rfl rfl rfl) ?_
 refine At.p (some 12) (P_assign rfl rfl) ?_
 refine At.nil ?_
 refine At.next ?_
 refine At.cond rfl (fun h12 => by simp at h12) (fun h12 => ?_)
 refine At.skip ?_
 refine At.inb_n ?_
 refine At.next ?_
 refine At.seq ?_
 refine At.seq ?_
 refine At.region ?_
 refine At.p (some 17) (P_move rfl rfl) ?_
 refine At.p (some 18) (P_len_sl rfl rfl ⟨_, Try.underlying44⟩ rfl) ?_
 refine At.p (some 19) (P_move rfl rfl) ?_
 refine At.nil ?_
 refine At.next ?_
 refine At.block ?_
 refine At.loopx (I := fun m fr H => ∃ (k : Nat), m = es.length - k ∧ fr = frOf [(0, ptr bJ 0), (1, .slice Al nl cl), (2, iV ((u + k) : Int)), (9, .bool false), (10, ptr bJ 0), (11, .bool false), (12, .bool false), (13, ptr bJ 0), (14, ptr bJ 0), (15, ptr bJ 5), (16, .bool false), (17, .slice Al nl cl), (18, iV (nl : Int)), (19, iV (k : Int))] ∧ H = hOf [(0, dH false bD bS cD nD wr), (1, rowS false bS S rD), (2, ⟨false, bJ, 0, 82, [ptr bD 0, u64V gen, iV (ar : Int), .slice Aj nj cj, iV uj, .bool false], 0⟩), (3, ⟨false, bl, ql, 0, (es).map BG.v, 0⟩)] ∧ (k ≤ es.length)) ?_ ?_
 ·
  intro Kc0 hKc0
  refine At.to [(0, _), (1, _), (2, iV ((u + 0 : Nat) : Int)), (9, _), (10, _), (11, _), (12, _), (13, _), (14, _), (15, _), (16, _), (17, _), (18, _), (19, _)] [(0, _), (1, _), (2, _), (3, _)] (AllL.cons_ (rfl) (AllL.cons_ (rfl) (AllL.cons_ ((congrArg (fun z : Int => some (iV z)) (by omega))) (AllL.cons_ (rfl) (AllL.cons_ (rfl) (AllL.cons_ (rfl) (AllL.cons_ (rfl) (AllL.cons_ (rfl) (AllL.cons_ (rfl) (AllL.cons_ (rfl) (AllL.cons_ (rfl) (AllL.cons_ (rfl) (AllL.cons_ (rfl) (AllL.cons_ (rfl) trivial)))))))))))))) (AllL.cons_ (rfl) (AllL.cons_ (rfl) (AllL.cons_ (rfl) (AllL.cons_ (rfl) trivial)))) ?_
  exact hKc0 _ _ _ ⟨0, rfl, rfl, rfl, (by omega)⟩
 ·
  rintro m fr H ⟨k, rfl, rfl, rfl, hk⟩ Kc0 hKc0
  refine At.seq ?_
  refine At.region ?_
  refine At.p (some 20) (P_cmp rfl rfl rfl rfl rfl rfl) ?_
  refine At.nil ?_
  refine At.next ?_
  refine At.seq ?_
  refine At.cond rfl (fun h20 => ?_) (fun h20 => ?_)
  · -- cond 20 t
   have e20 : (k : Int) < (nl : Int) := of_decide_eq_true h20
   refine At.skip ?_
   refine At.next ?_
   refine At.seq ?_
   refine At.block ?_
   refine At.seq ?_
   refine At.region ?_
   refine At.p (some 21) (P_indexAddr_sl1 (b := bl) (m := ql) (j := k) rfl Try.underlying44 sz27 rfl (hAl OG) rfl RO OG) ?_
   refine At.q (some 22) (Q_loadR (k := 3) (f := BG.v) (l := es) (j := k) ((default : BG)) rfl rfl Try.underlying27 rfl rfl rfl OG) ?_
   have hel := he _ (getDG_mem (es := es) (i := k) (by omega))
   refine At.p (some 8) (P_assign rfl rfl) ?_
   refine At.nil ?_
   refine At.next ?_
   refine At.seq ?_
   refine At.seq ?_
   refine At.region ?_
   refine At.p (some 23) (P_move rfl rfl) ?_
   refine At.p (some 24) (P_len_sl rfl rfl ⟨_, Try.underlying27⟩ rfl) ?_
   refine At.p (some 25) (P_cmp rfl rfl rfl rfl rfl rfl) ?_
   refine At.p (some 26) (P_move rfl rfl) ?_
   refine At.gy (t := 26) rfl (decide_eq_false (by omega)) rfl rfl ?_
   refine At.p (some 27) (P_move rfl rfl) ?_
   refine At.gy (t := 26) rfl (decide_eq_false (by omega)) rfl rfl ?_
   refine At.p (some 28) (P_len_sl rfl rfl ⟨_, Try.underlying27⟩ rfl) ?_
   refine At.gy (t := 26) rfl (decide_eq_false (by omega)) rfl rfl ?_
   refine At.p (some 29) (P_cmp rfl rfl rfl rfl rfl rfl) ?_
   refine At.p (some 30) (P_pick_f rfl rfl (decide_eq_false (by omega)) rfl) ?_
   refine At.nil ?_
   refine At.next ?_
   refine At.cond rfl (fun h30 => by have := of_decide_eq_true h30; omega) (fun h30 => ?_)
   have e30 : ¬ ((es.getD k default).l.length : Int) > 4096 := of_decide_eq_false h30
   refine At.skip ?_
   refine At.next ?_
   refine At.region ?_
   refine At.p (some 31) (P_move rfl rfl) ?_
   refine At.p (some 32) (P_move rfl rfl) ?_
   refine At.p (some 33) (P_len_sl rfl rfl ⟨_, Try.underlying27⟩ rfl) ?_
   refine At.s (S_callV (some 34) [] [] (vs := [_]) rfl en26 rfl V0 (by simp) (c_Need (n := ((es.getD k default).l.length)) OG) (by rintro _ _ ⟨rfl, rfl⟩; rfl) ?_)
   rintro _ _ ⟨rfl, rfl⟩
   refine At.p (some 35) (P_add_i rfl rfl rfl (by omega)) ?_
   refine At.p (some 2) (P_assign rfl rfl) ?_
   refine At.nil ?_
   refine At.inb_n ?_
   refine At.next ?_
   refine At.region ?_
   refine At.p (some 36) (P_add_i rfl rfl rfl (by omega)) ?_
   refine At.p (some 19) (P_move rfl rfl) ?_
   refine At.nil ?_
   refine At.next ?_
   refine At.to [(0, _), (1, _), (2, iV ((u + (k + 1) : Nat) : Int)), (9, _), (10, _), (11, _), (12, _), (13, _), (14, _), (15, _), (16, _), (17, _), (18, _), (19, _)] [(0, _), (1, _), (2, _), (3, _)] (AllL.cons_ (rfl) (AllL.cons_ (rfl) (AllL.cons_ ((congrArg (fun z : Int => some (iV z)) (by omega))) (AllL.cons_ (rfl) (AllL.cons_ (rfl) (AllL.cons_ (rfl) (AllL.cons_ (rfl) (AllL.cons_ (rfl) (AllL.cons_ (rfl) (AllL.cons_ (rfl) (AllL.cons_ (rfl) (AllL.cons_ (rfl) (AllL.cons_ (rfl) (AllL.cons_ (rfl) trivial)))))))))))))) (AllL.cons_ (rfl) (AllL.cons_ (rfl) (AllL.cons_ (rfl) (AllL.cons_ (rfl) trivial)))) ?_
   exact hKc0 _ _ _ (by omega) ⟨k + 1, rfl, rfl, rfl, (by omega)⟩
  · -- cond 20 f
   have e20 : ¬ (k : Int) < (nl : Int) := of_decide_eq_false h20
   refine At.exit ?_
   refine At.thn_e ?_
   refine At.thn_e ?_
   refine At.inb_hit ?_
   refine At.next ?_
   refine At.seq ?_
   refine At.seq ?_
   refine At.region ?_
   refine At.p (some 37) (P_move rfl rfl) ?_
   refine At.p (some 38) (P_move rfl rfl) ?_
   refine At.p (some 39) (P_nilCheck rfl rfl) ?_
   refine At.p (some 40) (P_fieldAddr0 (off := 0) rfl Try.underlying82 rfl sz23 rfl rfl) ?_
   refine At.q (some 41) (Q_loadO (k := 2) rfl rfl Try.underlying23 rfl rfl rfl) ?_
   refine At.s (S_callV (some 42) [(0, _), (1, _)] [] (vs := [_]) rfl en48 rfl (VN (by simp) rfl View.all (VN (by simp) rfl View.all V0)) (by simp) (c_jsize (bD := bD) (bS := bS) (cD := cD) (nD := nD) (rD := rD) (S := S) (wr := wr) (by omega) (by omega) (by omega) (by omega) (by omega) (by omega)) (by rintro _ _ ⟨rfl, rfl⟩; rfl) ?_)
   rintro _ _ ⟨rfl, rfl⟩
   refine At.p (some 43) (P_cmp rfl rfl rfl rfl rfl rfl) ?_
   refine At.nil ?_
   refine At.next ?_
   refine At.cond rfl (fun h43 => by have := of_decide_eq_true h43; omega) (fun h43 => ?_)
   have e43 : ¬ ((u + k) : Int) > (((nD - 2) / 2 : Nat) : Int) := of_decide_eq_false h43
   refine At.skip ?_
   refine At.next ?_
   refine At.seq ?_
   refine At.region ?_
   refine At.p (some 6) (P_assign rfl rfl) ?_
   refine At.nil ?_
   refine At.next ?_
   refine At.ret ?_
   refine At.give (.inl rfl) [] (rows' := []) (vs := [_]) rfl ⟨rfl, trivial⟩ rfl (by simp) (by simp) ⟨rfl, rfl⟩

set_option maxHeartbeats 2000000 in
theorem c_mayF {bD bS cD nD rD : Nat} {S : List (BitVec 8)} {wr : Int} {bJ ar : Nat} {gen : BitVec 64} {Aj : Option Addr} {nj cj : Nat} {uj : Int} {es : List BG} {Al : Option Addr} {nl cl bl ql : Nat} {u : Nat} (hSl : S.length = nD * 64) (hn : nD ≤ 512) (hc : nD ≤ cD) (hw : 0 ≤ wr) (hw2 : wr ≤ 4611686018427380000) (h4 : 4 ≤ nD) (hln : es.length = nl) (hAl : 0 < nl → Al = some ⟨bl, ql, none⟩) (he : ∀ e ∈ es, 1 ≤ e.l.length ∧ e.l.length ≤ 46) (hu : (nD - 2) / 2 < u + es.length) (hu2 : u ≤ 1000000) (hel2 : es.length ≤ 1000000) :
  Con Try.prog 46 [ptr bJ 0, .slice Al nl cl, iV (u : Int)] [dH false bD bS cD nD wr, rowS false bS S rD, ⟨false, bJ, 0, 82, [ptr bD 0, u64V gen, iV (ar : Int), .slice Aj nj cj, iV uj, .bool false], 0⟩, ⟨false, bl, ql, 0, (es).map BG.v, 0⟩] (fun v rs => v = iV 5 ∧ rs = []) := by
 refine Con.enter Try.func46 Try.ntmps46 (Nat.le_of_ble_eq_true rfl) rfl fun w => ?_
 refine At.seq ?_
 refine At.region ?_
 refine At.p (some 6) (P_assign rfl rfl) ?_
 refine At.nil ?_
 refine At.next ?_
 refine At.seq ?_
 refine At.block ?_
 refine At.seq ?_
 refine At.region ?_
 refine At.p (some 10) (P_move rfl rfl) ?_
 refine At.p (some 11) (P_eql_ptr rfl rfl rfl Try.underlying50) ?_
 refine At.p (some 9) (P_assign rfl rfl) ?_
 refine At.nil ?_
 refine At.next ?_
 refine At.cond rfl (fun h9 => by simp at h9) (fun h9 => ?_)
 refine At.seq ?_
 refine At.region ?_
 refine At.p (some 13) (P_move rfl rfl) ?_
 refine At.p (some 14) (P_nilCheck rfl rfl) ?_
 refine At.p (some 15) (P_fieldAddr0 (off := 5) rfl Try.underlying82 rfl sz4 rfl rfl) ?_
 refine At.q (some 16) (Q_loadO (k := 2) rfl rfl Try.underlying4 rfl rfl rfl) ?_
 refine At.p (some 12) (P_assign rfl rfl) ?_
 refine At.nil ?_
 refine At.next ?_
 refine At.cond rfl (fun h12 => by simp at h12) (fun h12 => ?_)
 refine At.skip ?_
 refine At.inb_n ?_
 refine At.next ?_
 refine At.seq ?_
 refine At.seq ?_
 refine At.region ?_
 refine At.p (some 17) (P_move rfl rfl) ?_
 refine At.p (some 18) (P_len_sl rfl rfl ⟨_, Try.underlying44⟩ rfl) ?_
 refine At.p (some 19) (P_move rfl rfl) ?_
 refine At.nil ?_
 refine At.next ?_
 refine At.block ?_
 refine At.loopx (I := fun m fr H => ∃ (k : Nat), m = es.length - k ∧ fr = frOf [(0, ptr bJ 0), (1, .slice Al nl cl), (2, iV ((u + k) : Int)), (9, .bool false), (10, ptr bJ 0), (11, .bool false), (12, .bool false), (13, ptr bJ 0), (14, ptr bJ 0), (15, ptr bJ 5), (16, .bool false), (17, .slice Al nl cl), (18, iV (nl : Int)), (19, iV (k : Int))] ∧ H = hOf [(0, dH false bD bS cD nD wr), (1, rowS false bS S rD), (2, ⟨false, bJ, 0, 82, [ptr bD 0, u64V gen, iV (ar : Int), .slice Aj nj cj, iV uj, .bool false], 0⟩), (3, ⟨false, bl, ql, 0, (es).map BG.v, 0⟩)] ∧ (k ≤ es.length)) ?_ ?_
 ·
  intro Kc0 hKc0
  refine At.to [(0, _), (1, _), (2, iV ((u + 0 : Nat) : Int)), (9, _), (10, _), (11, _), (12, _), (13, _), (14, _), (15, _), (16, _), (17, _), (18, _), (19, _)] [(0, _), (1, _), (2, _), (3, _)] (AllL.cons_ (rfl) (AllL.cons_ (rfl) (AllL.cons_ ((congrArg (fun z : Int => some (iV z)) (by omega))) (AllL.cons_ (rfl) (AllL.cons_ (rfl) (AllL.cons_ (rfl) (AllL.cons_ (rfl) (AllL.cons_ (rfl) (AllL.cons_ (rfl) (AllL.cons_ (rfl) (AllL.cons_ (rfl) (AllL.cons_ (rfl) (AllL.cons_ (rfl) (AllL.cons_ (rfl) trivial)))))))))))))) (AllL.cons_ (rfl) (AllL.cons_ (rfl) (AllL.cons_ (rfl) (AllL.cons_ (rfl) trivial)))) ?_
  exact hKc0 _ _ _ ⟨0, rfl, rfl, rfl, (by omega)⟩
 ·
  rintro m fr H ⟨k, rfl, rfl, rfl, hk⟩ Kc0 hKc0
  refine At.seq ?_
  refine At.region ?_
  refine At.p (some 20) (P_cmp rfl rfl rfl rfl rfl rfl) ?_
  refine At.nil ?_
  refine At.next ?_
  refine At.seq ?_
  refine At.cond rfl (fun h20 => ?_) (fun h20 => ?_)
  · -- cond 20 t
   have e20 : (k : Int) < (nl : Int) := of_decide_eq_true h20
   refine At.skip ?_
   refine At.next ?_
   refine At.seq ?_
   refine At.block ?_
   refine At.seq ?_
   refine At.region ?_
   refine At.p (some 21) (P_indexAddr_sl1 (b := bl) (m := ql) (j := k) rfl Try.underlying44 sz27 rfl (hAl OG) rfl RO OG) ?_
   refine At.q (some 22) (Q_loadR (k := 3) (f := BG.v) (l := es) (j := k) ((default : BG)) rfl rfl Try.underlying27 rfl rfl rfl OG) ?_
   have hel := he _ (getDG_mem (es := es) (i := k) (by omega))
   refine At.p (some 8) (P_assign rfl rfl) ?_
   refine At.nil ?_
   refine At.next ?_
   refine At.seq ?_
   refine At.seq ?_
   refine At.region ?_
   refine At.p (some 23) (P_move rfl rfl) ?_
   refine At.p (some 24) (P_len_sl rfl rfl ⟨_, Try.underlying27⟩ rfl) ?_
   refine At.p (some 25) (P_cmp rfl rfl rfl rfl rfl rfl) ?_
   refine At.p (some 26) (P_move rfl rfl) ?_
   refine At.gy (t := 26) rfl (decide_eq_false (by omega)) rfl rfl ?_
   refine At.p (some 27) (P_move rfl rfl) ?_
   refine At.gy (t := 26) rfl (decide_eq_false (by omega)) rfl rfl ?_
   refine At.p (some 28) (P_len_sl rfl rfl ⟨_, Try.underlying27⟩ rfl) ?_
   refine At.gy (t := 26) rfl (decide_eq_false (by omega)) rfl rfl ?_
   refine At.p (some 29) (P_cmp rfl rfl rfl rfl rfl rfl) ?_
   refine At.p (some 30) (P_pick_f rfl rfl (decide_eq_false (by omega)) rfl) ?_
   refine At.nil ?_
   refine At.next ?_
   refine At.cond rfl (fun h30 => by have := of_decide_eq_true h30; omega) (fun h30 => ?_)
   have e30 : ¬ ((es.getD k default).l.length : Int) > 4096 := of_decide_eq_false h30
   refine At.skip ?_
   refine At.next ?_
   refine At.region ?_
   refine At.p (some 31) (P_move rfl rfl) ?_
   refine At.p (some 32) (P_move rfl rfl) ?_
   refine At.p (some 33) (P_len_sl rfl rfl ⟨_, Try.underlying27⟩ rfl) ?_
   refine At.s (S_callV (some 34) [] [] (vs := [_]) rfl en26 rfl V0 (by simp) (c_Need (n := ((es.getD k default).l.length)) OG) (by rintro _ _ ⟨rfl, rfl⟩; rfl) ?_)
   rintro _ _ ⟨rfl, rfl⟩
   refine At.p (some 35) (P_add_i rfl rfl rfl (by omega)) ?_
   refine At.p (some 2) (P_assign rfl rfl) ?_
   refine At.nil ?_
   refine At.inb_n ?_
   refine At.next ?_
   refine At.region ?_
   refine At.p (some 36) (P_add_i rfl rfl rfl (by omega)) ?_
   refine At.p (some 19) (P_move rfl rfl) ?_
   refine At.nil ?_
   refine At.next ?_
   refine At.to [(0, _), (1, _), (2, iV ((u + (k + 1) : Nat) : Int)), (9, _), (10, _), (11, _), (12, _), (13, _), (14, _), (15, _), (16, _), (17, _), (18, _), (19, _)] [(0, _), (1, _), (2, _), (3, _)] (AllL.cons_ (rfl) (AllL.cons_ (rfl) (AllL.cons_ ((congrArg (fun z : Int => some (iV z)) (by omega))) (AllL.cons_ (rfl) (AllL.cons_ (rfl) (AllL.cons_ (rfl) (AllL.cons_ (rfl) (AllL.cons_ (rfl) (AllL.cons_ (rfl) (AllL.cons_ (rfl) (AllL.cons_ (rfl) (AllL.cons_ (rfl) (AllL.cons_ (rfl) (AllL.cons_ (rfl) trivial)))))))))))))) (AllL.cons_ (rfl) (AllL.cons_ (rfl) (AllL.cons_ (rfl) (AllL.cons_ (rfl) trivial)))) ?_
   exact hKc0 _ _ _ (by omega) ⟨k + 1, rfl, rfl, rfl, (by omega)⟩
  · -- cond 20 f
   have e20 : ¬ (k : Int) < (nl : Int) := of_decide_eq_false h20
   refine At.exit ?_
   refine At.thn_e ?_
   refine At.thn_e ?_
   refine At.inb_hit ?_
   refine At.next ?_
   refine At.seq ?_
   refine At.seq ?_
   refine At.region ?_
   refine At.p (some 37) (P_move rfl rfl) ?_
   refine At.p (some 38) (P_move rfl rfl) ?_
   refine At.p (some 39) (P_nilCheck rfl rfl) ?_
   refine At.p (some 40) (P_fieldAddr0 (off := 0) rfl Try.underlying82 rfl sz23 rfl rfl) ?_
   refine At.q (some 41) (Q_loadO (k := 2) rfl rfl Try.underlying23 rfl rfl rfl) ?_
   refine At.s (S_callV (some 42) [(0, _), (1, _)] [] (vs := [_]) rfl en48 rfl (VN (by simp) rfl View.all (VN (by simp) rfl View.all V0)) (by simp) (c_jsize (bD := bD) (bS := bS) (cD := cD) (nD := nD) (rD := rD) (S := S) (wr := wr) (by omega) (by omega) (by omega) (by omega) (by omega) (by omega)) (by rintro _ _ ⟨rfl, rfl⟩; rfl) ?_)
   rintro _ _ ⟨rfl, rfl⟩
   refine At.p (some 43) (P_cmp rfl rfl rfl rfl rfl rfl) ?_
   refine At.nil ?_
   refine At.next ?_
   refine At.cond rfl (fun h43 => ?_) (fun h43 => by have := of_decide_eq_false h43; omega)
   have e43 : ((u + k) : Int) > (((nD - 2) / 2 : Nat) : Int) := of_decide_eq_true h43
   refine At.seq ?_
   refine At.region ?_
   refine At.p (some 6) (P_assign rfl rfl) ?_
   refine At.nil ?_
   refine At.next ?_
   refine At.ret ?_
   refine At.thn_r ?_
   refine At.give (.inl rfl) [] (rows' := []) (vs := [_]) rfl ⟨rfl, trivial⟩ rfl (by simp) (by simp) ⟨rfl, rfl⟩

set_option maxHeartbeats 2000000 in
theorem c_AppY {bD bS cD nD rD : Nat} {S : List (BitVec 8)} {wr : Int} {bJ ar cj bj : Nat} {gen : BitVec 64} {es : List BG} {Aj : Option Addr} {e : List (BitVec 8)} {Ae : Option Addr} {ce be : Nat} (hSl : S.length = nD * 64) (hn : nD ≤ 512) (hc : nD ≤ cD) (hw : 0 ≤ wr) (hw2 : wr ≤ 4611686018427380000) (h4 : 4 ≤ nD) (har : ar ≤ 1) (hAj : 0 < cj → Aj = some ⟨bj, 0, none⟩) (hcj : es.length ≤ cj) (hAe : Ae = some ⟨be, 0, none⟩) (hce : e.length ≤ ce) (he1 : 1 ≤ e.length) (he2 : e.length ≤ 14) (hu : es.length < (nD - 2) / 2) :
  Con Try.prog 29 [ptr bJ 0, .slice Ae e.length ce] [dH true bD bS cD nD wr, rowS true bS S rD, ⟨true, bJ, 0, 82, [ptr bD 0, u64V gen, iV (ar : Int), .slice Aj es.length cj, iV (uL es), .bool false], 0⟩, ⟨true, bj, 0, 27, (es).map BG.v, cj - (es).length⟩, pRow be 0 e] (fun v rs => ∃ A' b' c' A2 b2 c2, (0 < c' → A' = some ⟨b', 0, none⟩) ∧ (es ++ [(bG A2 b2 c2 e)]).length ≤ c' ∧ (bG A2 b2 c2 e).ok ∧ v = iV 0 ∧ rs = [dH true bD bS cD nD (wr + 1), rowS true bS (splice S ((fstS nD ar + es.length) * 64) (secB gen es.length e)) rD, ⟨true, bJ, 0, 82, [ptr bD 0, u64V gen, iV (ar : Int), .slice A' (es ++ [(bG A2 b2 c2 e)]).length c', iV (uL (es ++ [(bG A2 b2 c2 e)])), .bool false], 0⟩, ⟨true, b', 0, 27, (es ++ [(bG A2 b2 c2 e)]).map BG.v, c' - (es ++ [(bG A2 b2 c2 e)]).length⟩, (bG A2 b2 c2 e).row 5]) := by
 refine Con.enter Try.func29 Try.ntmps29 (Nat.le_of_ble_eq_true rfl) rfl fun w => ?_
 refine At.seq ?_
 have huL : uL es = (es.length : Int) := rfl
 refine At.region ?_
 refine At.p (some 4) (P_assign rfl rfl) ?_
 refine At.nil ?_
 refine At.next ?_
 refine At.seq ?_
 refine At.region ?_
 refine At.p (some 5) (P_assign rfl rfl) ?_
 refine At.nil ?_
 refine At.next ?_
 refine At.seq ?_
 refine At.seq ?_
 refine At.region ?_
 refine At.p (some 7) (P_move rfl rfl) ?_
 refine At.p (some 8) (P_neq_ptr rfl rfl rfl Try.underlying50) ?_
 refine At.nil ?_
 refine At.next ?_
 refine At.cond rfl (fun h8 => ?_) (fun h8 => by simp at h8)
 refine At.region ?_
 refine At.p (some 9) (P_move rfl rfl) ?_
 refine At.p (some 10) (P_nilCheck rfl rfl) ?_
 refine At.p (some 11) (P_fieldAddr0 (off := 4) rfl Try.underlying82 rfl sz3 rfl rfl) ?_
 refine At.q (some 12) (Q_loadO (k := 2) rfl rfl Try.underlying3 rfl rfl rfl) ?_
 refine At.p (some 5) (P_assign rfl rfl) ?_
 refine At.nil ?_
 refine At.next ?_
 refine At.seq ?_
 refine At.seq ?_
 refine At.region ?_
 refine At.p (some 13) (P_move rfl rfl) ?_
 refine At.p (some 14) (P_move rfl rfl) ?_
 refine At.s (S_buildSliceV (some 15) 15 (([(bG Ae be ce e)]).map BG.v) rfl Try.underlying44 sz27 ze27 rfl rfl (by decide) (by decide) rfl rfl (fun b15 => ?_))
 refine At.p (some 16) (P_move rfl rfl) ?_
 refine At.s (S_callV (some 17) [(0, _), (1, _), (2, _), (15, _)] [] (vs := [_, _, _]) rfl en46 rfl (VN (by simp) rfl View.all (VN (by simp) rfl View.all (VN (by simp) rfl View.all (VN (by simp) rfl View.all V0)))) (by simp) (c_mayG (bD := bD) (bS := bS) (cD := cD) (nD := nD) (rD := rD) (S := S) (wr := wr) (bJ := bJ) (gen := gen) (ar := ar) (Aj := Aj) (nj := es.length) (cj := cj) (uj := (uL es)) (es := [(bG Ae be ce e)]) (Al := (some ⟨b15, 0, none⟩)) (nl := 1) (cl := 1) (bl := b15) (ql := 0) (u := es.length) (by omega) (by omega) (by omega) (by omega) (by omega) (by omega) LN (fun _ => rfl) (bG1_len rfl (by omega) (by omega)) (by rw [List.length_singleton]; omega) (by omega) (by simp)) (by rintro _ _ ⟨rfl, rfl⟩; rfl) ?_)
 rintro _ _ ⟨rfl, rfl⟩
 refine At.p (some 6) (P_assign rfl rfl) ?_
 refine At.nil ?_
 refine At.next ?_
 refine At.seq ?_
 refine At.region ?_
 refine At.p (some 18) (P_move rfl rfl) ?_
 refine At.p (some 19) (P_cmp rfl rfl rfl rfl rfl rfl) ?_
 refine At.nil ?_
 refine At.next ?_
 refine At.cond rfl (fun h19 => by exact absurd h19 (by decide)) (fun h19 => ?_)
 have e19 : 0 = 0 := bne_eq_false_iff_eq.1 h19
 refine At.skip ?_
 refine At.next ?_
 refine At.seq ?_
 refine At.region ?_
 refine At.p (some 21) (P_move rfl rfl) ?_
 refine At.p (some 22) (P_move rfl rfl) ?_
 refine At.p (some 23) (P_move rfl rfl) ?_
 refine At.p (some 24) (P_nilCheck rfl rfl) ?_
 refine At.p (some 25) (P_fieldAddr0 (off := 2) rfl Try.underlying82 rfl sz3 rfl rfl) ?_
 refine At.q (some 26) (Q_loadO (k := 2) rfl rfl Try.underlying3 rfl rfl rfl) ?_
 refine At.s (S_callR (some 27) [(0, _), (1, _), (2, _), (3, _)] [(4, _)] [0, 1, 2, 300, 301] (vs := [_, _, _]) rfl en47 rfl (ON rfl rfl (ON rfl rfl (ON rfl rfl (ON rfl rfl O0)))) (by simp) (VN (by simp) rfl View.all V0) (by simp) (c_putG (bD := bD) (bS := bS) (cD := cD) (nD := nD) (rD := rD) (S := S) (wr := wr) (bJ := bJ) (gen := gen) (ar := ar) (cj := cj) (bj := bj) (Aj := Aj) (es := es) (e := e) (ne := e.length) (Ae := Ae) (ce := ce) (be := be) (qe := 0) (by omega) (by omega) (by omega) (by omega) (by omega) (by omega) (by omega) (fun h => hAj h) (by omega) LN (fun _ => hAe) OG (by omega) (by omega) (by omega)) (by rintro _ _ ⟨A300, b300, c300, A301, b301, c301, g300a, g300b, g301, rfl, rfl⟩; rfl) ?_)
 rintro _ _ ⟨A300, b300, c300, A301, b301, c301, g300a, g300b, g301, rfl, rfl⟩
 refine At.p (some 4) (P_assign rfl rfl) ?_
 refine At.nil ?_
 refine At.next ?_
 refine At.ret ?_
 refine At.give (.inl rfl) [0, 1, 2, 300, 301] (rows' := [_, _, _, _, _]) (vs := [_]) rfl ⟨rfl, trivial⟩ rfl (by simp) (by simp [dH, rowD, rowS, BG.row]) ?_
 exact ⟨A300, b300, c300, A301, b301, c301, g300a, g300b, g301, rfl, rfl⟩

set_option maxHeartbeats 2000000 in
theorem c_AppN {bD bS cD nD rD : Nat} {S : List (BitVec 8)} {wr : Int} {bJ ar cj : Nat} {gen : BitVec 64} {es : List BG} {Aj : Option Addr} {e : List (BitVec 8)} {Ae : Option Addr} {ce be : Nat} (hSl : S.length = nD * 64) (hn : nD ≤ 512) (hc : nD ≤ cD) (hw : 0 ≤ wr) (hw2 : wr ≤ 4611686018427380000) (h4 : 4 ≤ nD) (hAe : Ae = some ⟨be, 0, none⟩) (hce : e.length ≤ ce) (he1 : 1 ≤ e.length) (he2 : e.length ≤ 14) (hu : es.length = (nD - 2) / 2) :
  Con Try.prog 29 [ptr bJ 0, .slice Ae e.length ce] [dH false bD bS cD nD wr, rowS false bS S rD, ⟨false, bJ, 0, 82, [ptr bD 0, u64V gen, iV (ar : Int), .slice Aj es.length cj, iV (uL es), .bool false], 0⟩, pRow be 0 e] (fun v rs => v = iV 5 ∧ rs = []) := by
 refine Con.enter Try.func29 Try.ntmps29 (Nat.le_of_ble_eq_true rfl) rfl fun w => ?_
 refine At.seq ?_
 have huL : uL es = (es.length : Int) := rfl
 refine At.region ?_
 refine At.p (some 4) (P_assign rfl rfl) ?_
 refine At.nil ?_
 refine At.next ?_
 refine At.seq ?_
 refine At.region ?_
 refine At.p (some 5) (P_assign rfl rfl) ?_
 refine At.nil ?_
 refine At.next ?_
 refine At.seq ?_
 refine At.seq ?_
 refine At.region ?_
 refine At.p (some 7) (P_move rfl rfl) ?_
 refine At.p (some 8) (P_neq_ptr rfl rfl rfl Try.underlying50) ?_
 refine At.nil ?_
 refine At.next ?_
 refine At.cond rfl (fun h8 => ?_) (fun h8 => by simp at h8)
 refine At.region ?_
 refine At.p (some 9) (P_move rfl rfl) ?_
 refine At.p (some 10) (P_nilCheck rfl rfl) ?_
 refine At.p (some 11) (P_fieldAddr0 (off := 4) rfl Try.underlying82 rfl sz3 rfl rfl) ?_
 refine At.q (some 12) (Q_loadO (k := 2) rfl rfl Try.underlying3 rfl rfl rfl) ?_
 refine At.p (some 5) (P_assign rfl rfl) ?_
 refine At.nil ?_
 refine At.next ?_
 refine At.seq ?_
 refine At.seq ?_
 refine At.region ?_
 refine At.p (some 13) (P_move rfl rfl) ?_
 refine At.p (some 14) (P_move rfl rfl) ?_
 refine At.s (S_buildSliceV (some 15) 15 (([(bG Ae be ce e)]).map BG.v) rfl Try.underlying44 sz27 ze27 rfl rfl (by decide) (by decide) rfl rfl (fun b15 => ?_))
 refine At.p (some 16) (P_move rfl rfl) ?_
 refine At.s (S_callV (some 17) [(0, _), (1, _), (2, _), (15, _)] [] (vs := [_, _, _]) rfl en46 rfl (VN (by simp) rfl View.all (VN (by simp) rfl View.all (VN (by simp) rfl View.all (VN (by simp) rfl View.all V0)))) (by simp) (c_mayF (bD := bD) (bS := bS) (cD := cD) (nD := nD) (rD := rD) (S := S) (wr := wr) (bJ := bJ) (gen := gen) (ar := ar) (Aj := Aj) (nj := es.length) (cj := cj) (uj := (uL es)) (es := [(bG Ae be ce e)]) (Al := (some ⟨b15, 0, none⟩)) (nl := 1) (cl := 1) (bl := b15) (ql := 0) (u := es.length) (by omega) (by omega) (by omega) (by omega) (by omega) (by omega) LN (fun _ => rfl) (bG1_len rfl (by omega) (by omega)) (by rw [List.length_singleton]; omega) (by omega) (by simp)) (by rintro _ _ ⟨rfl, rfl⟩; rfl) ?_)
 rintro _ _ ⟨rfl, rfl⟩
 refine At.p (some 6) (P_assign rfl rfl) ?_
 refine At.nil ?_
 refine At.next ?_
 refine At.seq ?_
 refine At.region ?_
 refine At.p (some 18) (P_move rfl rfl) ?_
 refine At.p (some 19) (P_cmp rfl rfl rfl rfl rfl rfl) ?_
 refine At.nil ?_
 refine At.next ?_
 refine At.cond rfl (fun h19 => ?_) (fun h19 => by exact absurd h19 (by decide))
 have e19 : 5 ≠ 0 := bne_iff_ne.1 h19
 refine At.seq ?_
 refine At.region ?_
 refine At.p (some 20) (P_move rfl rfl) ?_
 refine At.p (some 4) (P_assign rfl rfl) ?_
 refine At.nil ?_
 refine At.next ?_
 refine At.ret ?_
 refine At.thn_r ?_
 refine At.give (.inl rfl) [] (rows' := []) (vs := [_]) rfl ⟨rfl, trivial⟩ rfl (by simp) (by simp) ⟨rfl, rfl⟩


end Go.Proofs.Ytdingfinclcbgaa

