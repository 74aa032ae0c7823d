import Derived.Test.YtihciioopdalnaaVV1
namespace Go.Proofs.Ytihciioopdalnaa
set_option maxRecDepth 20000
set_option linter.unusedVariables false
set_option linter.unusedSimpArgs false
open Go.SE Go.RowKit
theorem ofInt_nat8 (m : Nat) : (BitVec.ofInt 8 (m : Int)).toNat = m % 256 := by
  rw [BitVec.ofInt_natCast, BitVec.toNat_ofNat]
theorem be4_lit (m : Nat) : beI 4 (m : Int) = [BitVec.ofNat 8 (m / 16777216), BitVec.ofNat 8 (m / 65536), BitVec.ofNat 8 (m / 256), BitVec.ofNat 8 m] := by
  have e : ∀ k : Nat, BitVec.ofInt 8 ((m : Int) / 2 ^ k) = BitVec.ofNat 8 (m / 2 ^ k) := by
    intro k
    rw [← BitVec.ofInt_natCast, Int.natCast_ediv, Int.natCast_pow]; rfl
  simp only [beI, List.range_succ, List.range_zero, List.nil_append, List.map_append, List.map_cons, List.map_nil, e, List.cons_append]
  simp
theorem be2_lit (m : Nat) : beI 2 (m : Int) = [BitVec.ofNat 8 (m / 256), BitVec.ofNat 8 m] := by
  have e : ∀ k : Nat, BitVec.ofInt 8 ((m : Int) / 2 ^ k) = BitVec.ofNat 8 (m / 2 ^ k) := by
    intro k
    rw [← BitVec.ofInt_natCast, Int.natCast_ediv, Int.natCast_pow]; rfl
  simp only [beI, List.range_succ, List.range_zero, List.nil_append, List.map_append, List.map_cons, List.map_nil, e, List.cons_append]
  simp
theorem beN_be4 {n : Int} (h0 : 0 ≤ n) (h1 : n < 4294967296) : ((beN (beI 4 n) 0 : Nat) : Int) = n := by
  obtain ⟨m, rfl⟩ := Int.eq_ofNat_of_zero_le h0
  rw [be4_lit]
  simp only [beN, BitVec.toNat_ofNat]
  omega
theorem beN_be2 {n : Int} (h0 : 0 ≤ n) (h1 : n < 65536) : ((beN (beI 2 n) 0 : Nat) : Int) = n := by
  obtain ⟨m, rfl⟩ := Int.eq_ofNat_of_zero_le h0
  rw [be2_lit]
  simp only [beN, BitVec.toNat_ofNat]
  omega
/-- bytes that begin with a note's: what is read -/
theorem note_nums {c n g : Int} (h : nrB c n g = true) (t : List (BitVec 8)) : numI (noteB c n g ++ t) 0 4 = c ∧ numI (noteB c n g ++ t) 4 2 = n ∧ numI (noteB c n g ++ t) 6 4 = g := by
  obtain ⟨r1, r2, r3, r4, r5, r6⟩ := nrB_t h
  have l4 : ∀ z, (beI 4 z).length = 4 := beI_len 4
  have l2 : ∀ z, (beI 2 z).length = 2 := beI_len 2
  have e1 : ((noteB c n g ++ t).drop 0).take 4 = beI 4 c := by
    rw [List.drop_zero, noteB, List.append_assoc, List.append_assoc, List.take_append_of_le_length (by rw [l4]; decide), List.take_of_length_le (by rw [l4]; decide)]
  have e2 : ((noteB c n g ++ t).drop 4).take 2 = beI 2 n := by
    rw [noteB, List.append_assoc, List.append_assoc, List.drop_left' (l4 c), List.take_append_of_le_length (by rw [l2]; decide), List.take_of_length_le (by rw [l2]; decide)]
  have e3 : ((noteB c n g ++ t).drop 6).take 4 = beI 4 g := by
    rw [noteB, List.append_assoc, List.drop_left' (show (beI 4 c ++ beI 2 n).length = 6 by simp [beI_len]), List.take_append_of_le_length (by rw [l4]; decide), List.take_of_length_le (by rw [l4]; decide)]
  unfold numI
  rw [e1, e2, e3]
  exact ⟨beN_be4 r1 (by omega), beN_be2 r3 (by omega), beN_be4 r5 (by omega)⟩
theorem nonce_app (a t : List (BitVec 8)) (h : 4 ≤ a.length) : nonceV (a ++ t) = nonceV a := by
  match a, h with
  | x :: y :: z :: w :: a, _ => rfl
theorem vs_open {key : List (BitVec 8)} {c n g : Int} {b : List (BitVec 8)} (h : vsOk c n g b = true) :
    rdE (vsT key c n g b) = 0 ∧ rdC (vsT key c n g b) = c ∧ rdN (vsT key c n g b) = n ∧ rdG (vsT key c n g b) = g ∧ opE key (vsT key c n g b) = 0 ∧ opT key (vsT key c n g b) = b ∧ opC key (vsT key c n g b) = c ∧ opN key (vsT key c n g b) = n ∧ opG key (vsT key c n g b) = g ∧ (vsT key c n g b).length = b.length + 26 := by
  have hb : nrB c n g = true ∧ b.length ≤ 30000 := by simpa [vsOk] using h
  have e := vsT_t (key := key) h
  have hl : (vsT key c n g b).length = b.length + 26 := by rw [e, List.length_append, noteB_len, sealS_len]; omega
  obtain ⟨n1, n2, n3⟩ := note_nums hb.1 (sealS key (nonceV (noteB c n g)) b (noteB c n g))
  rw [← e] at n1 n2 n3
  have r := rd_ok (b := vsT key c n g b) (by omega) (by omega) (by rw [n1, n2, n3]; exact hb.1)
  have d : (vsT key c n g b).drop 10 = sealS key (nonceV (noteB c n g)) b (noteB c n g) := by rw [e, List.drop_left' (noteB_len c n g)]
  have t : (vsT key c n g b).take 10 = noteB c n g := by rw [e, List.take_left' (noteB_len c n g)]
  have v : nonceV (vsT key c n g b) = nonceV (noteB c n g) := by rw [e, nonce_app _ _ (by rw [noteB_len]; decide)]
  have o := op_ok (key := key) (b := vsT key c n g b) r.1 (by rw [d, t, v]; exact open_seal _ _ _ _)
  refine ⟨r.1, ?_, ?_, ?_, o.1, ?_, ?_, ?_, ?_, hl⟩
  · rw [r.2.1, n1]
  · rw [r.2.2.1, n2]
  · rw [r.2.2.2, n3]
  · rw [o.2.1, d, t, v, openT_seal]
  · rw [o.2.2.1, n1]
  · rw [o.2.2.2.1, n2]
  · rw [o.2.2.2.2, n3]
theorem keeps_other : opE [2#8, 0#8, 0#8, 0#8, 0#8, 0#8, 0#8, 0#8, 0#8, 0#8, 0#8, 0#8, 0#8, 0#8, 0#8, 0#8, 0#8, 0#8, 0#8, 0#8, 0#8, 0#8, 0#8, 0#8, 0#8, 0#8, 0#8, 0#8, 0#8, 0#8, 0#8, 0#8] (vsT [1#8, 0#8, 0#8, 0#8, 0#8, 0#8, 0#8, 0#8, 0#8, 0#8, 0#8, 0#8, 0#8, 0#8, 0#8, 0#8, 0#8, 0#8, 0#8, 0#8, 0#8, 0#8, 0#8, 0#8, 0#8, 0#8, 0#8, 0#8, 0#8, 0#8, 0#8, 0#8] 3 2 1 []) = 4 := by decide +kernel
theorem keeps_known : vsE 3 2 1 [] = 0 ∧ opE [1#8, 0#8, 0#8, 0#8, 0#8, 0#8, 0#8, 0#8, 0#8, 0#8, 0#8, 0#8, 0#8, 0#8, 0#8, 0#8, 0#8, 0#8, 0#8, 0#8, 0#8, 0#8, 0#8, 0#8, 0#8, 0#8, 0#8, 0#8, 0#8, 0#8, 0#8, 0#8] (vsT [1#8, 0#8, 0#8, 0#8, 0#8, 0#8, 0#8, 0#8, 0#8, 0#8, 0#8, 0#8, 0#8, 0#8, 0#8, 0#8, 0#8, 0#8, 0#8, 0#8, 0#8, 0#8, 0#8, 0#8, 0#8, 0#8, 0#8, 0#8, 0#8, 0#8, 0#8, 0#8] 3 2 1 []) = 0 ∧ (vsT [1#8, 0#8, 0#8, 0#8, 0#8, 0#8, 0#8, 0#8, 0#8, 0#8, 0#8, 0#8, 0#8, 0#8, 0#8, 0#8, 0#8, 0#8, 0#8, 0#8, 0#8, 0#8, 0#8, 0#8, 0#8, 0#8, 0#8, 0#8, 0#8, 0#8, 0#8, 0#8] 3 2 1 []).length = 26 ∧ opT [1#8, 0#8, 0#8, 0#8, 0#8, 0#8, 0#8, 0#8, 0#8, 0#8, 0#8, 0#8, 0#8, 0#8, 0#8, 0#8, 0#8, 0#8, 0#8, 0#8, 0#8, 0#8, 0#8, 0#8, 0#8, 0#8, 0#8, 0#8, 0#8, 0#8, 0#8, 0#8] (vsT [1#8, 0#8, 0#8, 0#8, 0#8, 0#8, 0#8, 0#8, 0#8, 0#8, 0#8, 0#8, 0#8, 0#8, 0#8, 0#8, 0#8, 0#8, 0#8, 0#8, 0#8, 0#8, 0#8, 0#8, 0#8, 0#8, 0#8, 0#8, 0#8, 0#8, 0#8, 0#8] 3 2 1 []) = [] ∧ opC [1#8, 0#8, 0#8, 0#8, 0#8, 0#8, 0#8, 0#8, 0#8, 0#8, 0#8, 0#8, 0#8, 0#8, 0#8, 0#8, 0#8, 0#8, 0#8, 0#8, 0#8, 0#8, 0#8, 0#8, 0#8, 0#8, 0#8, 0#8, 0#8, 0#8, 0#8, 0#8] (vsT [1#8, 0#8, 0#8, 0#8, 0#8, 0#8, 0#8, 0#8, 0#8, 0#8, 0#8, 0#8, 0#8, 0#8, 0#8, 0#8, 0#8, 0#8, 0#8, 0#8, 0#8, 0#8, 0#8, 0#8, 0#8, 0#8, 0#8, 0#8, 0#8, 0#8, 0#8, 0#8] 3 2 1 []) = 3 ∧ opN [1#8, 0#8, 0#8, 0#8, 0#8, 0#8, 0#8, 0#8, 0#8, 0#8, 0#8, 0#8, 0#8, 0#8, 0#8, 0#8, 0#8, 0#8, 0#8, 0#8, 0#8, 0#8, 0#8, 0#8, 0#8, 0#8, 0#8, 0#8, 0#8, 0#8, 0#8, 0#8] (vsT [1#8, 0#8, 0#8, 0#8, 0#8, 0#8, 0#8, 0#8, 0#8, 0#8, 0#8, 0#8, 0#8, 0#8, 0#8, 0#8, 0#8, 0#8, 0#8, 0#8, 0#8, 0#8, 0#8, 0#8, 0#8, 0#8, 0#8, 0#8, 0#8, 0#8, 0#8, 0#8] 3 2 1 []) = 2 ∧ opG [1#8, 0#8, 0#8, 0#8, 0#8, 0#8, 0#8, 0#8, 0#8, 0#8, 0#8, 0#8, 0#8, 0#8, 0#8, 0#8, 0#8, 0#8, 0#8, 0#8, 0#8, 0#8, 0#8, 0#8, 0#8, 0#8, 0#8, 0#8, 0#8, 0#8, 0#8, 0#8] (vsT [1#8, 0#8, 0#8, 0#8, 0#8, 0#8, 0#8, 0#8, 0#8, 0#8, 0#8, 0#8, 0#8, 0#8, 0#8, 0#8, 0#8, 0#8, 0#8, 0#8, 0#8, 0#8, 0#8, 0#8, 0#8, 0#8, 0#8, 0#8, 0#8, 0#8, 0#8, 0#8] 3 2 1 []) = 1 ∧ opE [2#8, 0#8, 0#8, 0#8, 0#8, 0#8, 0#8, 0#8, 0#8, 0#8, 0#8, 0#8, 0#8, 0#8, 0#8, 0#8, 0#8, 0#8, 0#8, 0#8, 0#8, 0#8, 0#8, 0#8, 0#8, 0#8, 0#8, 0#8, 0#8, 0#8, 0#8, 0#8] (vsT [1#8, 0#8, 0#8, 0#8, 0#8, 0#8, 0#8, 0#8, 0#8, 0#8, 0#8, 0#8, 0#8, 0#8, 0#8, 0#8, 0#8, 0#8, 0#8, 0#8, 0#8, 0#8, 0#8, 0#8, 0#8, 0#8, 0#8, 0#8, 0#8, 0#8, 0#8, 0#8] 3 2 1 []) = 4 ∧ True ∧ True ∧ True ∧ True := by
  have h := vs_open (key := [1#8, 0#8, 0#8, 0#8, 0#8, 0#8, 0#8, 0#8, 0#8, 0#8, 0#8, 0#8, 0#8, 0#8, 0#8, 0#8, 0#8, 0#8, 0#8, 0#8, 0#8, 0#8, 0#8, 0#8, 0#8, 0#8, 0#8, 0#8, 0#8, 0#8, 0#8, 0#8]) (c := 3) (n := 2) (g := 1) (b := []) (by decide)
  exact ⟨by decide, h.2.2.2.2.1, h.2.2.2.2.2.2.2.2.2, h.2.2.2.2.2.1, h.2.2.2.2.2.2.1, h.2.2.2.2.2.2.2.1, h.2.2.2.2.2.2.2.2.1, keeps_other, trivial, trivial, trivial, trivial⟩
theorem op_alt (key b : List (BitVec 8)) : rdE b = opE key b ∨ (opE key b = 4 ∧ rdE b = 0) := by
  unfold opE
  by_cases h : rdE b = 0
  · rw [if_pos h]
    split
    · exact .inl h
    · exact .inr ⟨rfl, h⟩
  · rw [if_neg h]; exact .inl rfl
abbrev snap : List (BitVec 8) := [115#8, 110#8, 97#8, 112#8, 115#8, 104#8, 111#8, 116#8]
theorem vs_snap (key : List (BitVec 8)) (k : Nat) (h : k < 1000000) : vsE k 1 1 snap = 0 ∧ (vsT key k 1 1 snap).length = 34 ∧ (vsT key k 1 1 snap).take 10 = noteB k 1 1 ∧ opE key (vsT key k 1 1 snap) = 0 ∧ numI (vsT key k 1 1 snap) 0 4 = k ∧ vsOk k 1 1 snap = true := by
  have hv : vsOk k 1 1 snap = true := vsOk_t (decide_eq_true (by omega)) (by decide)
  have o := vs_open (key := key) hv
  have e := vsT_t (key := key) hv
  have nb : nrB k 1 1 = true := decide_eq_true (by omega)
  obtain ⟨n1, n2, n3⟩ := note_nums nb (sealS key (nonceV (noteB k 1 1)) snap (noteB k 1 1))
  rw [← e] at n1
  exact ⟨vsE_t hv, o.2.2.2.2.2.2.2.2.2, by rw [e, List.take_left' (noteB_len _ _ _)], o.2.2.2.2.1, n1, hv⟩
theorem snap_eq {key : List (BitVec 8)} {a b : Nat} (ha : a < 1000000) (hb : b < 1000000) : decide (vsT key a 1 1 snap = vsT key b 1 1 snap) = ((a : Int) == (b : Int)) := by
  have p := (vs_snap key a ha).2.2.2.2.1
  have q := (vs_snap key b hb).2.2.2.2.1
  by_cases h : a = b
  · subst h; simp
  · have h1 : ((a : Int) == (b : Int)) = false := by simp; omega
    rw [h1]
    refine decide_eq_false fun e => h ?_
    rw [e, q] at p
    omega
theorem numI_bnd (b : List (BitVec 8)) (o w : Nat) (h : w ≤ 4) : 0 ≤ numI b o w ∧ numI b o w < 4294967296 := by
  unfold numI
  have := beN_le4 (l := (b.drop o).take w) (by rw [List.length_take]; omega)
  omega
theorem op_bnd (key b : List (BitVec 8)) : (0 ≤ opC key b ∧ opC key b < 4294967296) ∧ (0 ≤ opN key b ∧ opN key b < 4294967296) ∧ (0 ≤ opG key b ∧ opG key b < 4294967296) := by
  have a := numI_bnd b 0 4 (by decide); have c := numI_bnd b 4 2 (by decide); have d := numI_bnd b 6 4 (by decide)
  unfold opC opN opG
  cases opOk key b
  · exact ⟨by simp, by simp, by simp⟩
  · exact ⟨a, c, d⟩
theorem rd_bnd (b : List (BitVec 8)) : (0 ≤ rdC b ∧ rdC b < 4294967296) ∧ (0 ≤ rdN b ∧ rdN b < 4294967296) ∧ (0 ≤ rdG b ∧ rdG b < 4294967296) := by
  have a := numI_bnd b 0 4 (by decide); have c := numI_bnd b 4 2 (by decide); have d := numI_bnd b 6 4 (by decide)
  unfold rdC rdN rdG
  by_cases h : rdE b = 0
  · rw [if_pos h, if_pos h, if_pos h]; exact ⟨a, c, d⟩
  · rw [if_neg h, if_neg h, if_neg h]; exact ⟨by simp, by simp, by simp⟩
theorem snap_mix (key : List (BitVec 8)) {a b : Nat} (ha : a < 1000000) : a = b → opE key ((((vsT key (b : Int) 1 1 snap).take (10 - 0)) ++ (((vsT key (a : Int) 1 1 snap).drop 10).take (((vsT key (a : Int) 1 1 snap).length) - 10)))) = 0 := by
  rintro rfl
  rw [List.take_of_length_le (l := (vsT key (a : Int) 1 1 snap).drop 10) (by rw [List.length_drop]; omega), Nat.sub_zero, List.take_append_drop]
  exact (vs_snap key a ha).2.2.2.1
attribute [local irreducible] sealS openT openE openOk aTag streamS

attribute [local irreducible] vsT vsE vsOk rdE rdC rdN rdG opE opT opC opN opG noteB nonceV

set_option maxHeartbeats 2000000 in
theorem c_to {c : Int} {n : Int} {g : Int}  :
    Con Try.prog 44 [.agg ([iV c, iV n, iV g]).toArray] [] (fun v rs => v = .agg ([iV c, iV n, iV g]).toArray ∧ rs = []) := by
  refine Con.enter Try.func44 Try.ntmps44 (Nat.le_of_ble_eq_true rfl) rfl fun w => ?_
  refine At.seq ?_
  refine At.region ?_
  refine At.s (S_box (some 1) 1 (zs := [iV c, iV n, iV g]) rfl rfl rfl (fun b1 => ?_))
  refine At.s (S_alloc (some 2) 2 (zs := [iV 0, iV 0, iV 0]) rfl ze78 rfl (fun b2 => ?_))
  refine At.nil ?_
  refine At.next ?_
  refine At.seq ?_
  refine At.region ?_
  refine At.p (some 3) (P_fieldAddr0 (off := 0) rfl Try.underlying75 rfl sz3 rfl rfl) ?_
  refine At.q (some 4) (Q_loadO (k := 1) rfl rfl Try.underlying3 rfl rfl rfl) ?_
  refine At.p (some 5) (P_fieldAddr0 (off := 1) rfl Try.underlying75 rfl sz3 rfl rfl) ?_
  refine At.q (some 6) (Q_loadO (k := 1) rfl rfl Try.underlying3 rfl rfl rfl) ?_
  refine At.p (some 7) (P_fieldAddr0 (off := 2) rfl Try.underlying75 rfl sz3 rfl rfl) ?_
  refine At.q (some 8) (Q_loadO (k := 1) rfl rfl Try.underlying3 rfl rfl rfl) ?_
  refine At.p (some 9) (P_build_struct (parts := _) (vs := [(0, _), (1, _), (2, _)]) rfl Try.underlying78 ze78 pl78 rfl rfl) ?_
  refine At.s (S_storeA none (k := 2) (vs := [iV c, iV n, iV g]) rfl rfl rfl (by rw [sz78]; exact congrArg some LN) rfl (one_cons rfl (one_cons rfl (one_cons rfl one_nil))) NG rfl LN ?_)
  refine At.nil ?_
  refine At.next ?_
  refine At.ret ?_
  have hq0 : [iV c, iV n, iV g] = [iV c, iV n, iV g] := rfl
  refine At.giveV (.inl rfl) [] (rows' := []) (ResV.cellA (k := 2) rfl rfl Try.underlying78 rfl sz78 LN rfl) rfl (by simp) (by simp) ?_
  exact ⟨congrArg (fun z => Value.agg (List.toArray z)) hq0, rfl⟩

set_option maxHeartbeats 2000000 in
theorem c_keeps   :
    Con Try.prog 46 [] [] (fun v rs => v = .bool true ∧ rs = []) := by
  refine Con.enter Try.func46 Try.ntmps46 (Nat.le_of_ble_eq_true rfl) rfl fun w => ?_
  refine At.seq ?_
  refine At.region ?_
  refine At.p (some 0) (P_assign rfl rfl) ?_
  refine At.nil ?_
  refine At.next ?_
  refine At.seq ?_
  obtain ⟨w1, w2, w3, w4, w5, w6, w7, w8, w9, wA, wB, wC⟩ := keeps_known
  refine At.region ?_
  refine At.p (some 10) (P_build_arr (cs := (([1#8, 0#8, 0#8, 0#8, 0#8, 0#8, 0#8, 0#8, 0#8, 0#8, 0#8, 0#8, 0#8, 0#8, 0#8, 0#8, 0#8, 0#8, 0#8, 0#8, 0#8, 0#8, 0#8, 0#8, 0#8, 0#8, 0#8, 0#8, 0#8, 0#8, 0#8, 0#8]).map u8V).toArray) (parts := _) (vs := [(0, _)]) rfl Try.underlying23 sz5 ze23 rfl rfl) ?_
  refine At.p (some 11) (P_build_struct (parts := _) (vs := [(0, _), (1, _), (2, _)]) rfl Try.underlying78 ze78 pl78 rfl rfl) ?_
  refine At.s (S_callV (some 12) [(98, _)] [12] (vs := [_, _, _]) rfl en43 rfl (VE rfl rfl V0) (by simp) (c_VSeal (key := [1#8, 0#8, 0#8, 0#8, 0#8, 0#8, 0#8, 0#8, 0#8, 0#8, 0#8, 0#8, 0#8, 0#8, 0#8, 0#8, 0#8, 0#8, 0#8, 0#8, 0#8, 0#8, 0#8, 0#8, 0#8, 0#8, 0#8, 0#8, 0#8, 0#8, 0#8, 0#8]) (c := 3) (n := 2) (g := 1) (b := ([] : List (BitVec 8))) (nb := 0) (Ab := none) (cb := 0) (bb := 0) (qb := 0) LN LN (fun h => absurd h (Nat.lt_irrefl 0))) (by rintro _ _ ⟨A12, b12, c12, g12a, g12b, rfl, rfl⟩; rfl) ?_)
  rintro _ _ ⟨A12, b12, c12, g12a, g12b, rfl, rfl⟩
  refine At.p (some 9) (P_move rfl rfl) ?_
  refine At.p (some 13) (P_extract rfl rfl rfl) ?_
  refine At.p (some 14) (P_extract rfl rfl rfl) ?_
  refine At.p (some 1) (P_assign rfl rfl) ?_
  refine At.p (some 2) (P_assign rfl rfl) ?_
  refine At.nil ?_
  refine At.next ?_
  refine At.seq ?_
  refine At.region ?_
  refine At.p (some 16) (P_build_arr (cs := (([1#8, 0#8, 0#8, 0#8, 0#8, 0#8, 0#8, 0#8, 0#8, 0#8, 0#8, 0#8, 0#8, 0#8, 0#8, 0#8, 0#8, 0#8, 0#8, 0#8, 0#8, 0#8, 0#8, 0#8, 0#8, 0#8, 0#8, 0#8, 0#8, 0#8, 0#8, 0#8]).map u8V).toArray) (parts := _) (vs := [(0, _)]) rfl Try.underlying23 sz5 ze23 rfl rfl) ?_
  refine At.p (some 17) (P_move rfl rfl) ?_
  refine At.s (S_callV (some 18) [(12, _)] [18] (vs := [_, _]) rfl en47 rfl (VN (by simp) rfl View.all V0) (by simp) (c_VOpen (key := [1#8, 0#8, 0#8, 0#8, 0#8, 0#8, 0#8, 0#8, 0#8, 0#8, 0#8, 0#8, 0#8, 0#8, 0#8, 0#8, 0#8, 0#8, 0#8, 0#8, 0#8, 0#8, 0#8, 0#8, 0#8, 0#8, 0#8, 0#8, 0#8, 0#8, 0#8, 0#8]) (b := (vsT [1#8, 0#8, 0#8, 0#8, 0#8, 0#8, 0#8, 0#8, 0#8, 0#8, 0#8, 0#8, 0#8, 0#8, 0#8, 0#8, 0#8, 0#8, 0#8, 0#8, 0#8, 0#8, 0#8, 0#8, 0#8, 0#8, 0#8, 0#8, 0#8, 0#8, 0#8, 0#8] 3 2 1 ([] : List (BitVec 8)))) (nb := ((vsT [1#8, 0#8, 0#8, 0#8, 0#8, 0#8, 0#8, 0#8, 0#8, 0#8, 0#8, 0#8, 0#8, 0#8, 0#8, 0#8, 0#8, 0#8, 0#8, 0#8, 0#8, 0#8, 0#8, 0#8, 0#8, 0#8, 0#8, 0#8, 0#8, 0#8, 0#8, 0#8] 3 2 1 ([] : List (BitVec 8))).length)) (Ab := A12) (cb := c12) (bb := b12) (qb := 0) LN LN (fun h => g12a (by omega)) OG OG) (by rintro _ _ ⟨A18, b18, c18, g18a, g18b, rfl, rfl⟩; rfl) ?_)
  rintro _ _ ⟨A18, b18, c18, g18a, g18b, rfl, rfl⟩
  refine At.p (some 15) (P_move rfl rfl) ?_
  refine At.p (some 19) (P_extract rfl rfl rfl) ?_
  refine At.p (some 20) (P_extract rfl rfl rfl) ?_
  refine At.p (some 21) (P_extract rfl rfl rfl) ?_
  refine At.s (S_alloc (some 3) 3 (zs := [iV 0, iV 0, iV 0]) rfl ze78 rfl (fun b3 => ?_))
  refine At.s (S_storeA none (k := 3) (vs := [iV (opC [1#8, 0#8, 0#8, 0#8, 0#8, 0#8, 0#8, 0#8, 0#8, 0#8, 0#8, 0#8, 0#8, 0#8, 0#8, 0#8, 0#8, 0#8, 0#8, 0#8, 0#8, 0#8, 0#8, 0#8, 0#8, 0#8, 0#8, 0#8, 0#8, 0#8, 0#8, 0#8] (vsT [1#8, 0#8, 0#8, 0#8, 0#8, 0#8, 0#8, 0#8, 0#8, 0#8, 0#8, 0#8, 0#8, 0#8, 0#8, 0#8, 0#8, 0#8, 0#8, 0#8, 0#8, 0#8, 0#8, 0#8, 0#8, 0#8, 0#8, 0#8, 0#8, 0#8, 0#8, 0#8] 3 2 1 ([] : List (BitVec 8)))), iV (opN [1#8, 0#8, 0#8, 0#8, 0#8, 0#8, 0#8, 0#8, 0#8, 0#8, 0#8, 0#8, 0#8, 0#8, 0#8, 0#8, 0#8, 0#8, 0#8, 0#8, 0#8, 0#8, 0#8, 0#8, 0#8, 0#8, 0#8, 0#8, 0#8, 0#8, 0#8, 0#8] (vsT [1#8, 0#8, 0#8, 0#8, 0#8, 0#8, 0#8, 0#8, 0#8, 0#8, 0#8, 0#8, 0#8, 0#8, 0#8, 0#8, 0#8, 0#8, 0#8, 0#8, 0#8, 0#8, 0#8, 0#8, 0#8, 0#8, 0#8, 0#8, 0#8, 0#8, 0#8, 0#8] 3 2 1 ([] : List (BitVec 8)))), iV (opG [1#8, 0#8, 0#8, 0#8, 0#8, 0#8, 0#8, 0#8, 0#8, 0#8, 0#8, 0#8, 0#8, 0#8, 0#8, 0#8, 0#8, 0#8, 0#8, 0#8, 0#8, 0#8, 0#8, 0#8, 0#8, 0#8, 0#8, 0#8, 0#8, 0#8, 0#8, 0#8] (vsT [1#8, 0#8, 0#8, 0#8, 0#8, 0#8, 0#8, 0#8, 0#8, 0#8, 0#8, 0#8, 0#8, 0#8, 0#8, 0#8, 0#8, 0#8, 0#8, 0#8, 0#8, 0#8, 0#8, 0#8, 0#8, 0#8, 0#8, 0#8, 0#8, 0#8, 0#8, 0#8] 3 2 1 ([] : List (BitVec 8))))]) rfl rfl rfl (by rw [sz78]; exact congrArg some LN) rfl (one_cons rfl (one_cons rfl (one_cons rfl one_nil))) NG rfl LN ?_)
  refine At.p (some 4) (P_assign rfl rfl) ?_
  refine At.p (some 5) (P_assign rfl rfl) ?_
  refine At.nil ?_
  refine At.next ?_
  refine At.seq ?_
  refine At.region ?_
  refine At.p (some 23) (P_build_arr (cs := (([2#8, 0#8, 0#8, 0#8, 0#8, 0#8, 0#8, 0#8, 0#8, 0#8, 0#8, 0#8, 0#8, 0#8, 0#8, 0#8, 0#8, 0#8, 0#8, 0#8, 0#8, 0#8, 0#8, 0#8, 0#8, 0#8, 0#8, 0#8, 0#8, 0#8, 0#8, 0#8]).map u8V).toArray) (parts := _) (vs := [(0, _)]) rfl Try.underlying23 sz5 ze23 rfl rfl) ?_
  refine At.p (some 24) (P_move rfl rfl) ?_
  refine At.s (S_callV (some 25) [(12, _)] [25] (vs := [_, _]) rfl en47 rfl (VN (by simp) rfl View.all V0) (by simp) (c_VOpen (key := [2#8, 0#8, 0#8, 0#8, 0#8, 0#8, 0#8, 0#8, 0#8, 0#8, 0#8, 0#8, 0#8, 0#8, 0#8, 0#8, 0#8, 0#8, 0#8, 0#8, 0#8, 0#8, 0#8, 0#8, 0#8, 0#8, 0#8, 0#8, 0#8, 0#8, 0#8, 0#8]) (b := (vsT [1#8, 0#8, 0#8, 0#8, 0#8, 0#8, 0#8, 0#8, 0#8, 0#8, 0#8, 0#8, 0#8, 0#8, 0#8, 0#8, 0#8, 0#8, 0#8, 0#8, 0#8, 0#8, 0#8, 0#8, 0#8, 0#8, 0#8, 0#8, 0#8, 0#8, 0#8, 0#8] 3 2 1 ([] : List (BitVec 8)))) (nb := ((vsT [1#8, 0#8, 0#8, 0#8, 0#8, 0#8, 0#8, 0#8, 0#8, 0#8, 0#8, 0#8, 0#8, 0#8, 0#8, 0#8, 0#8, 0#8, 0#8, 0#8, 0#8, 0#8, 0#8, 0#8, 0#8, 0#8, 0#8, 0#8, 0#8, 0#8, 0#8, 0#8] 3 2 1 ([] : List (BitVec 8))).length)) (Ab := A12) (cb := c12) (bb := b12) (qb := 0) LN LN (fun h => g12a (by omega)) OG OG) (by rintro _ _ ⟨A25, b25, c25, g25a, g25b, rfl, rfl⟩; rfl) ?_)
  rintro _ _ ⟨A25, b25, c25, g25a, g25b, rfl, rfl⟩
  refine At.p (some 22) (P_move rfl rfl) ?_
  refine At.p (some 26) (P_extract rfl rfl rfl) ?_
  refine At.p (some 27) (P_extract rfl rfl rfl) ?_
  refine At.p (some 28) (P_extract rfl rfl rfl) ?_
  refine At.s (S_alloc (some 6) 6 (zs := [iV 0, iV 0, iV 0]) rfl ze78 rfl (fun b6 => ?_))
  refine At.s (S_storeA none (k := 6) (vs := [iV (opC [2#8, 0#8, 0#8, 0#8, 0#8, 0#8, 0#8, 0#8, 0#8, 0#8, 0#8, 0#8, 0#8, 0#8, 0#8, 0#8, 0#8, 0#8, 0#8, 0#8, 0#8, 0#8, 0#8, 0#8, 0#8, 0#8, 0#8, 0#8, 0#8, 0#8, 0#8, 0#8] (vsT [1#8, 0#8, 0#8, 0#8, 0#8, 0#8, 0#8, 0#8, 0#8, 0#8, 0#8, 0#8, 0#8, 0#8, 0#8, 0#8, 0#8, 0#8, 0#8, 0#8, 0#8, 0#8, 0#8, 0#8, 0#8, 0#8, 0#8, 0#8, 0#8, 0#8, 0#8, 0#8] 3 2 1 ([] : List (BitVec 8)))), iV (opN [2#8, 0#8, 0#8, 0#8, 0#8, 0#8, 0#8, 0#8, 0#8, 0#8, 0#8, 0#8, 0#8, 0#8, 0#8, 0#8, 0#8, 0#8, 0#8, 0#8, 0#8, 0#8, 0#8, 0#8, 0#8, 0#8, 0#8, 0#8, 0#8, 0#8, 0#8, 0#8] (vsT [1#8, 0#8, 0#8, 0#8, 0#8, 0#8, 0#8, 0#8, 0#8, 0#8, 0#8, 0#8, 0#8, 0#8, 0#8, 0#8, 0#8, 0#8, 0#8, 0#8, 0#8, 0#8, 0#8, 0#8, 0#8, 0#8, 0#8, 0#8, 0#8, 0#8, 0#8, 0#8] 3 2 1 ([] : List (BitVec 8)))), iV (opG [2#8, 0#8, 0#8, 0#8, 0#8, 0#8, 0#8, 0#8, 0#8, 0#8, 0#8, 0#8, 0#8, 0#8, 0#8, 0#8, 0#8, 0#8, 0#8, 0#8, 0#8, 0#8, 0#8, 0#8, 0#8, 0#8, 0#8, 0#8, 0#8, 0#8, 0#8, 0#8] (vsT [1#8, 0#8, 0#8, 0#8, 0#8, 0#8, 0#8, 0#8, 0#8, 0#8, 0#8, 0#8, 0#8, 0#8, 0#8, 0#8, 0#8, 0#8, 0#8, 0#8, 0#8, 0#8, 0#8, 0#8, 0#8, 0#8, 0#8, 0#8, 0#8, 0#8, 0#8, 0#8] 3 2 1 ([] : List (BitVec 8))))]) rfl rfl rfl (by rw [sz78]; exact congrArg some LN) rfl (one_cons rfl (one_cons rfl (one_cons rfl one_nil))) NG rfl LN ?_)
  refine At.p (some 7) (P_assign rfl rfl) ?_
  refine At.p (some 8) (P_assign rfl rfl) ?_
  refine At.nil ?_
  refine At.next ?_
  refine At.seq ?_
  refine At.region ?_
  refine At.p (some 29) (P_move rfl rfl) ?_
  refine At.p (some 30) (P_cmp rfl rfl rfl rfl rfl rfl) ?_
  refine At.p (some 31) (P_move rfl rfl) ?_
  refine At.gy (t := 31) rfl (by first | (simp only [w1, w2, w3, w4, w5, w6, w7, w8, w9, wA, wB, wC]; done) | (simp only [w1, w2, w3, w4, w5, w6, w7, w8, w9, wA, wB, wC]; decide) | (simp [w1, w2, w3, w4, w5, w6, w7, w8, w9, wA, wB, wC]; done)) rfl rfl ?_
  refine At.p (some 32) (P_move rfl rfl) ?_
  refine At.gy (t := 31) rfl (by first | (simp only [w1, w2, w3, w4, w5, w6, w7, w8, w9, wA, wB, wC]; done) | (simp only [w1, w2, w3, w4, w5, w6, w7, w8, w9, wA, wB, wC]; decide) | (simp [w1, w2, w3, w4, w5, w6, w7, w8, w9, wA, wB, wC]; done)) rfl rfl ?_
  refine At.p (some 33) (P_cmp rfl rfl rfl rfl rfl rfl) ?_
  refine At.p (some 34) (P_pick_t rfl rfl (by first | (simp only [w1, w2, w3, w4, w5, w6, w7, w8, w9, wA, wB, wC]; done) | (simp only [w1, w2, w3, w4, w5, w6, w7, w8, w9, wA, wB, wC]; decide) | (simp [w1, w2, w3, w4, w5, w6, w7, w8, w9, wA, wB, wC]; done)) rfl) ?_
  refine At.p (some 35) (P_move rfl rfl) ?_
  refine At.gy (t := 35) rfl (by first | (simp only [w1, w2, w3, w4, w5, w6, w7, w8, w9, wA, wB, wC]; done) | (simp only [w1, w2, w3, w4, w5, w6, w7, w8, w9, wA, wB, wC]; decide) | (simp [w1, w2, w3, w4, w5, w6, w7, w8, w9, wA, wB, wC]; done)) rfl rfl ?_
  refine At.p (some 36) (P_move rfl rfl) ?_
  refine At.gy (t := 35) rfl (by first | (simp only [w1, w2, w3, w4, w5, w6, w7, w8, w9, wA, wB, wC]; done) | (simp only [w1, w2, w3, w4, w5, w6, w7, w8, w9, wA, wB, wC]; decide) | (simp [w1, w2, w3, w4, w5, w6, w7, w8, w9, wA, wB, wC]; done)) rfl rfl ?_
  refine At.p (some 37) (P_len_sl rfl rfl ⟨_, Try.underlying22⟩ rfl) ?_
  refine At.gy (t := 35) rfl (by first | (simp only [w1, w2, w3, w4, w5, w6, w7, w8, w9, wA, wB, wC]; done) | (simp only [w1, w2, w3, w4, w5, w6, w7, w8, w9, wA, wB, wC]; decide) | (simp [w1, w2, w3, w4, w5, w6, w7, w8, w9, wA, wB, wC]; done)) rfl rfl ?_
  refine At.p (some 38) (P_cmp rfl rfl rfl rfl rfl rfl) ?_
  refine At.p (some 39) (P_pick_t rfl rfl (by first | (simp only [w1, w2, w3, w4, w5, w6, w7, w8, w9, wA, wB, wC]; done) | (simp only [w1, w2, w3, w4, w5, w6, w7, w8, w9, wA, wB, wC]; decide) | (simp [w1, w2, w3, w4, w5, w6, w7, w8, w9, wA, wB, wC]; done)) rfl) ?_
  refine At.p (some 40) (P_move rfl rfl) ?_
  refine At.gy (t := 40) rfl (by first | (simp only [w1, w2, w3, w4, w5, w6, w7, w8, w9, wA, wB, wC]; done) | (simp only [w1, w2, w3, w4, w5, w6, w7, w8, w9, wA, wB, wC]; decide) | (simp [w1, w2, w3, w4, w5, w6, w7, w8, w9, wA, wB, wC]; done)) rfl rfl ?_
  refine At.p (some 41) (P_move rfl rfl) ?_
  refine At.gy (t := 40) rfl (by first | (simp only [w1, w2, w3, w4, w5, w6, w7, w8, w9, wA, wB, wC]; done) | (simp only [w1, w2, w3, w4, w5, w6, w7, w8, w9, wA, wB, wC]; decide) | (simp [w1, w2, w3, w4, w5, w6, w7, w8, w9, wA, wB, wC]; done)) rfl rfl ?_
  refine At.p (some 42) (P_len_sl rfl rfl ⟨_, Try.underlying22⟩ rfl) ?_
  refine At.gy (t := 40) rfl (by first | (simp only [w1, w2, w3, w4, w5, w6, w7, w8, w9, wA, wB, wC]; done) | (simp only [w1, w2, w3, w4, w5, w6, w7, w8, w9, wA, wB, wC]; decide) | (simp [w1, w2, w3, w4, w5, w6, w7, w8, w9, wA, wB, wC]; done)) rfl rfl ?_
  refine At.p (some 43) (P_cmp rfl rfl rfl rfl rfl rfl) ?_
  refine At.p (some 44) (P_pick_t rfl rfl (by first | (simp only [w1, w2, w3, w4, w5, w6, w7, w8, w9, wA, wB, wC]; done) | (simp only [w1, w2, w3, w4, w5, w6, w7, w8, w9, wA, wB, wC]; decide) | (simp [w1, w2, w3, w4, w5, w6, w7, w8, w9, wA, wB, wC]; done)) rfl) ?_
  refine At.p (some 45) (P_move rfl rfl) ?_
  refine At.gy (t := 45) rfl (by first | (simp only [w1, w2, w3, w4, w5, w6, w7, w8, w9, wA, wB, wC]; done) | (simp only [w1, w2, w3, w4, w5, w6, w7, w8, w9, wA, wB, wC]; decide) | (simp [w1, w2, w3, w4, w5, w6, w7, w8, w9, wA, wB, wC]; done)) rfl rfl ?_
  refine At.p (some 46) (P_fieldAddr0 (off := 0) rfl Try.underlying78 rfl sz3 rfl rfl) ?_
  refine At.gy (t := 45) rfl (by first | (simp only [w1, w2, w3, w4, w5, w6, w7, w8, w9, wA, wB, wC]; done) | (simp only [w1, w2, w3, w4, w5, w6, w7, w8, w9, wA, wB, wC]; decide) | (simp [w1, w2, w3, w4, w5, w6, w7, w8, w9, wA, wB, wC]; done)) rfl rfl ?_
  refine At.q (some 47) (Q_loadO (k := 3) rfl rfl Try.underlying3 rfl rfl rfl) ?_
  refine At.gy (t := 45) rfl (by first | (simp only [w1, w2, w3, w4, w5, w6, w7, w8, w9, wA, wB, wC]; done) | (simp only [w1, w2, w3, w4, w5, w6, w7, w8, w9, wA, wB, wC]; decide) | (simp [w1, w2, w3, w4, w5, w6, w7, w8, w9, wA, wB, wC]; done)) rfl rfl ?_
  refine At.p (some 48) (P_cmp rfl rfl rfl rfl rfl rfl) ?_
  refine At.p (some 49) (P_pick_t rfl rfl (by first | (simp only [w1, w2, w3, w4, w5, w6, w7, w8, w9, wA, wB, wC]; done) | (simp only [w1, w2, w3, w4, w5, w6, w7, w8, w9, wA, wB, wC]; decide) | (simp [w1, w2, w3, w4, w5, w6, w7, w8, w9, wA, wB, wC]; done)) rfl) ?_
  refine At.p (some 50) (P_move rfl rfl) ?_
  refine At.gy (t := 50) rfl (by first | (simp only [w1, w2, w3, w4, w5, w6, w7, w8, w9, wA, wB, wC]; done) | (simp only [w1, w2, w3, w4, w5, w6, w7, w8, w9, wA, wB, wC]; decide) | (simp [w1, w2, w3, w4, w5, w6, w7, w8, w9, wA, wB, wC]; done)) rfl rfl ?_
  refine At.p (some 51) (P_fieldAddr0 (off := 1) rfl Try.underlying78 rfl sz3 rfl rfl) ?_
  refine At.gy (t := 50) rfl (by first | (simp only [w1, w2, w3, w4, w5, w6, w7, w8, w9, wA, wB, wC]; done) | (simp only [w1, w2, w3, w4, w5, w6, w7, w8, w9, wA, wB, wC]; decide) | (simp [w1, w2, w3, w4, w5, w6, w7, w8, w9, wA, wB, wC]; done)) rfl rfl ?_
  refine At.q (some 52) (Q_loadO (k := 3) rfl rfl Try.underlying3 rfl rfl rfl) ?_
  refine At.gy (t := 50) rfl (by first | (simp only [w1, w2, w3, w4, w5, w6, w7, w8, w9, wA, wB, wC]; done) | (simp only [w1, w2, w3, w4, w5, w6, w7, w8, w9, wA, wB, wC]; decide) | (simp [w1, w2, w3, w4, w5, w6, w7, w8, w9, wA, wB, wC]; done)) rfl rfl ?_
  refine At.p (some 53) (P_cmp rfl rfl rfl rfl rfl rfl) ?_
  refine At.p (some 54) (P_pick_t rfl rfl (by first | (simp only [w1, w2, w3, w4, w5, w6, w7, w8, w9, wA, wB, wC]; done) | (simp only [w1, w2, w3, w4, w5, w6, w7, w8, w9, wA, wB, wC]; decide) | (simp [w1, w2, w3, w4, w5, w6, w7, w8, w9, wA, wB, wC]; done)) rfl) ?_
  refine At.p (some 55) (P_move rfl rfl) ?_
  refine At.gy (t := 55) rfl (by first | (simp only [w1, w2, w3, w4, w5, w6, w7, w8, w9, wA, wB, wC]; done) | (simp only [w1, w2, w3, w4, w5, w6, w7, w8, w9, wA, wB, wC]; decide) | (simp [w1, w2, w3, w4, w5, w6, w7, w8, w9, wA, wB, wC]; done)) rfl rfl ?_
  refine At.p (some 56) (P_fieldAddr0 (off := 2) rfl Try.underlying78 rfl sz3 rfl rfl) ?_
  refine At.gy (t := 55) rfl (by first | (simp only [w1, w2, w3, w4, w5, w6, w7, w8, w9, wA, wB, wC]; done) | (simp only [w1, w2, w3, w4, w5, w6, w7, w8, w9, wA, wB, wC]; decide) | (simp [w1, w2, w3, w4, w5, w6, w7, w8, w9, wA, wB, wC]; done)) rfl rfl ?_
  refine At.q (some 57) (Q_loadO (k := 3) rfl rfl Try.underlying3 rfl rfl rfl) ?_
  refine At.gy (t := 55) rfl (by first | (simp only [w1, w2, w3, w4, w5, w6, w7, w8, w9, wA, wB, wC]; done) | (simp only [w1, w2, w3, w4, w5, w6, w7, w8, w9, wA, wB, wC]; decide) | (simp [w1, w2, w3, w4, w5, w6, w7, w8, w9, wA, wB, wC]; done)) rfl rfl ?_
  refine At.p (some 58) (P_cmp rfl rfl rfl rfl rfl rfl) ?_
  refine At.p (some 59) (P_pick_t rfl rfl (by first | (simp only [w1, w2, w3, w4, w5, w6, w7, w8, w9, wA, wB, wC]; done) | (simp only [w1, w2, w3, w4, w5, w6, w7, w8, w9, wA, wB, wC]; decide) | (simp [w1, w2, w3, w4, w5, w6, w7, w8, w9, wA, wB, wC]; done)) rfl) ?_
  refine At.p (some 60) (P_move rfl rfl) ?_
  refine At.gy (t := 60) rfl (by first | (simp only [w1, w2, w3, w4, w5, w6, w7, w8, w9, wA, wB, wC]; done) | (simp only [w1, w2, w3, w4, w5, w6, w7, w8, w9, wA, wB, wC]; decide) | (simp [w1, w2, w3, w4, w5, w6, w7, w8, w9, wA, wB, wC]; done)) rfl rfl ?_
  refine At.p (some 61) (P_move rfl rfl) ?_
  refine At.gy (t := 60) rfl (by first | (simp only [w1, w2, w3, w4, w5, w6, w7, w8, w9, wA, wB, wC]; done) | (simp only [w1, w2, w3, w4, w5, w6, w7, w8, w9, wA, wB, wC]; decide) | (simp [w1, w2, w3, w4, w5, w6, w7, w8, w9, wA, wB, wC]; done)) rfl rfl ?_
  refine At.p (some 62) (P_cmp rfl rfl rfl rfl rfl rfl) ?_
  refine At.p (some 63) (P_pick_t rfl rfl (by first | (simp only [w1, w2, w3, w4, w5, w6, w7, w8, w9, wA, wB, wC]; done) | (simp only [w1, w2, w3, w4, w5, w6, w7, w8, w9, wA, wB, wC]; decide) | (simp [w1, w2, w3, w4, w5, w6, w7, w8, w9, wA, wB, wC]; done)) rfl) ?_
  refine At.p (some 0) (P_assign rfl rfl) ?_
  refine At.nil ?_
  refine At.next ?_
  refine At.ret ?_
  have hq0 : ((opE [2#8, 0#8, 0#8, 0#8, 0#8, 0#8, 0#8, 0#8, 0#8, 0#8, 0#8, 0#8, 0#8, 0#8, 0#8, 0#8, 0#8, 0#8, 0#8, 0#8, 0#8, 0#8, 0#8, 0#8, 0#8, 0#8, 0#8, 0#8, 0#8, 0#8, 0#8, 0#8] (vsT [1#8, 0#8, 0#8, 0#8, 0#8, 0#8, 0#8, 0#8, 0#8, 0#8, 0#8, 0#8, 0#8, 0#8, 0#8, 0#8, 0#8, 0#8, 0#8, 0#8, 0#8, 0#8, 0#8, 0#8, 0#8, 0#8, 0#8, 0#8, 0#8, 0#8, 0#8, 0#8] 3 2 1 ([] : List (BitVec 8)))) == 4) = true := (by first | (simp only [w1, w2, w3, w4, w5, w6, w7, w8, w9, wA, wB, wC]; done) | (simp only [w1, w2, w3, w4, w5, w6, w7, w8, w9, wA, wB, wC]; decide) | (simp [w1, w2, w3, w4, w5, w6, w7, w8, w9, wA, wB, wC]; done))
  refine At.give (.inl rfl) [] (rows' := []) (vs := [_]) rfl ⟨rfl, trivial⟩ rfl (by simp) (by simp) ⟨(by first | (rw [hq0]; try rfl; done) | (rw [← hq0]; try rfl; done) | (simp only [hq0]; try rfl; done) | (simp only [← hq0]; try rfl; done) | rfl), (by first | (rw [hq0]; try rfl; done) | (rw [← hq0]; try rfl; done) | (simp only [hq0]; try rfl; done) | (simp only [← hq0]; try rfl; done) | rfl)⟩

set_option maxHeartbeats 2000000 in
theorem l_Seals_t {key : List (BitVec 8)} {c : Int} {n : Int} {g : Int} {b : List (BitVec 8)} {Ab : Option Addr} {nb cb bb qb : Nat} (hkey : key.length = 32) (hnb : b.length = nb) (hAb : 0 < nb → Ab = some ⟨bb, qb, none⟩) (hcb : nb ≤ cb) (hv : vsOk c n g (b.take (min nb 400 - 0)) = true) :
    Con Try.prog 10 [aggK key, .agg ([iV c, iV n, iV g]).toArray, .slice Ab nb cb] [pRow bb qb b] (fun v rs => v = .bool true ∧ rs = []) := by
  refine Con.enter Try.func10 Try.ntmps10 (Nat.le_of_ble_eq_true rfl) rfl fun w => ?_
  refine At.seq ?_
  refine At.region ?_
  refine At.s (S_box (some 3) 3 (zs := (key).map u8V) rfl rfl rfl (fun b3 => ?_))
  refine At.s (S_box (some 4) 4 (zs := [iV c, iV n, iV g]) rfl rfl rfl (fun b4 => ?_))
  refine At.p (some 6) (P_assign rfl rfl) ?_
  refine At.nil ?_
  refine At.next ?_
  refine At.seq ?_
  have hbl : (b.take (min nb 400 - 0)).length ≤ 400 := by rw [List.length_take]; omega
  refine At.region ?_
  refine At.p (some 17) (P_move rfl rfl) ?_
  refine At.p (some 18) (P_move rfl rfl) ?_
  refine At.p (some 19) (P_len_sl rfl rfl ⟨_, Try.underlying22⟩ rfl) ?_
  refine At.p (some 20) (P_min2 rfl rfl rfl rfl) ?_
  refine At.p (some 21) (P_slice_sl (l := 0) (h := (min nb 400)) (m := cb) rfl Try.underlying22 sz5 rfl rfl ⟨_, _, rfl, by omega⟩ rfl DO DO DO) ?_
  refine At.p (some 2) (P_assign rfl rfl) ?_
  refine At.nil ?_
  refine At.next ?_
  refine At.seq ?_
  obtain ⟨z0, z1, z2, z3, z4, z5, z6, z7, z8, z9⟩ := vs_open (key := key) hv
  have zE := vsE_t hv
  obtain ⟨r1, r2, r3, r4, r5, r6⟩ := nrB_t (vsOk_nr hv)
  refine At.region ?_
  refine At.p (some 22) (P_move rfl rfl) ?_
  refine At.q (some 23) (Q_strP (l := b) (n := ((min nb 400) - 0)) (k := 0) (j := 0) OG rfl Try.underlying22 Try.underlying5 Try.underlying9 rfl (fun h => cut_zero (hAb (by omega))) (fun _ => ⟨rfl, rfl, (Nat.add_zero _)⟩)) ?_
  refine At.p (some 7) (P_assign rfl rfl) ?_
  refine At.nil ?_
  refine At.next ?_
  refine At.seq ?_
  refine At.draws 9 [] [.q false [0, 1, 2, 3], .e false 4, .q false [5, 6, 7, 8]] (by kernel_rfl) (by kernel_rfl) ?_
  refine At.wq (some 25) (Q_loadA (k := 3) rfl rfl Try.underlying23 rfl sz23 LN rfl) ?_
  refine At.wq (some 26) (Q_loadA (k := 4) rfl rfl Try.underlying75 rfl sz75 LN rfl) ?_
  refine At.wcV (some 27) [] (vs := [_]) rfl en44 rfl V0 (c_to (c := c) (n := n) (g := g) ) ?_
  refine At.wp (some 28) (P_move rfl rfl) ?_
  refine At.wqn ?_
  refine At.we ?_
  refine SStep.up (S_callV (some 29) [(0, _)] [29] (vs := [_, _, _]) rfl en43 rfl (VN (by simp) rfl (View.sub (j := 0) (m := ((min nb 400) - 0)) RO rfl) V0) (by simp) (c_VSeal (key := key) (c := c) (n := n) (g := g) (b := (b.take ((min nb 400) - 0))) (nb := ((min nb 400) - 0)) (Ab := (cut Ab 0 cb 1)) (cb := (cb - 0)) (bb := bb) (qb := qb) LN LN (fun h => cut_zero (hAb (by omega)))) (by rintro _ _ ⟨A29, b29, c29, g29a, g29b, rfl, rfl⟩; rfl) ?_)
  rintro _ _ ⟨A29, b29, c29, g29a, g29b, rfl, rfl⟩
  refine At.wp (some 24) (P_move rfl rfl) ?_
  refine At.wp (some 30) (P_extract rfl rfl rfl) ?_
  refine At.wp (some 31) (P_extract rfl rfl rfl) ?_
  refine At.wp (some 8) (P_assign rfl rfl) ?_
  refine At.wqn ?_
  refine At.wt rfl ?_
  refine At.p (some 9) (P_assign rfl rfl) ?_
  refine At.nil ?_
  refine At.next ?_
  refine At.seq ?_
  refine At.region ?_
  refine At.q (some 33) (Q_loadA (k := 3) rfl rfl Try.underlying23 rfl sz23 LN rfl) ?_
  refine At.q (some 34) (Q_loadA (k := 4) rfl rfl Try.underlying75 rfl sz75 LN rfl) ?_
  refine At.p (some 35) (P_move rfl rfl) ?_
  refine At.s (S_callV (some 36) [(0, _)] [36] (vs := [_, _, _]) rfl en45 rfl (VN (by simp) rfl (View.sub (j := 0) (m := ((min nb 400) - 0)) RO rfl) V0) (by simp) (r_VSeal (key := key) (c := c) (n := n) (g := g) (b := (b.take ((min nb 400) - 0))) (nb := ((min nb 400) - 0)) (Ab := (cut Ab 0 cb 1)) (cb := (cb - 0)) (bb := bb) (qb := qb) LN LN (fun h => cut_zero (hAb (by omega)))) (by rintro _ _ ⟨A36, b36, c36, g36a, g36b, rfl, rfl⟩; rfl) ?_)
  rintro _ _ ⟨A36, b36, c36, g36a, g36b, rfl, rfl⟩
  refine At.p (some 32) (P_move rfl rfl) ?_
  refine At.p (some 37) (P_extract rfl rfl rfl) ?_
  refine At.p (some 38) (P_extract rfl rfl rfl) ?_
  refine At.p (some 10) (P_assign rfl rfl) ?_
  refine At.p (some 11) (P_assign rfl rfl) ?_
  refine At.nil ?_
  refine At.next ?_
  refine At.seq ?_
  refine At.seq ?_
  refine At.region ?_
  refine At.s (S_callV (some 39) [] [] (vs := []) rfl en46 rfl V0 (by simp) (c_keeps  ) (by rintro _ _ ⟨rfl, rfl⟩; rfl) ?_)
  rintro _ _ ⟨rfl, rfl⟩
  refine At.p (some 40) (P_not rfl rfl) ?_
  refine At.p (some 41) (P_move rfl rfl) ?_
  refine At.gy (t := 41) rfl (by first | rfl | (simp only [zE, hv, z0, z1, z2, z3, z4, z5, z6, z7, z8]; done) | (simp only [zE, hv, z0, z1, z2, z3, z4, z5, z6, z7, z8]; simp; done) | (simp; done)) rfl rfl ?_
  refine At.p (some 42) (P_move rfl rfl) ?_
  refine At.gy (t := 41) rfl (by first | rfl | (simp only [zE, hv, z0, z1, z2, z3, z4, z5, z6, z7, z8]; done) | (simp only [zE, hv, z0, z1, z2, z3, z4, z5, z6, z7, z8]; simp; done) | (simp; done)) rfl rfl ?_
  refine At.p (some 43) (P_cmp rfl rfl rfl rfl rfl rfl) ?_
  refine At.gy (t := 41) rfl (by first | rfl | (simp only [zE, hv, z0, z1, z2, z3, z4, z5, z6, z7, z8]; done) | (simp only [zE, hv, z0, z1, z2, z3, z4, z5, z6, z7, z8]; simp; done) | (simp; done)) rfl rfl ?_
  refine At.p (some 44) (P_move rfl rfl) ?_
  refine At.gy (t := 41) rfl (by first | rfl | (simp only [zE, hv, z0, z1, z2, z3, z4, z5, z6, z7, z8]; done) | (simp only [zE, hv, z0, z1, z2, z3, z4, z5, z6, z7, z8]; simp; done) | (simp; done)) rfl rfl ?_
  refine At.p (some 45) (P_neq_bool rfl Try.underlying4 rfl rfl) ?_
  refine At.p (some 46) (P_pick_f rfl rfl (by first | rfl | (simp only [zE, hv, z0, z1, z2, z3, z4, z5, z6, z7, z8]; done) | (simp only [zE, hv, z0, z1, z2, z3, z4, z5, z6, z7, z8]; simp; done) | (simp; done)) rfl) ?_
  refine At.p (some 47) (P_move rfl rfl) ?_
  refine At.gy (t := 47) rfl (by first | rfl | (simp only [zE, hv, z0, z1, z2, z3, z4, z5, z6, z7, z8]; done) | (simp only [zE, hv, z0, z1, z2, z3, z4, z5, z6, z7, z8]; simp; done) | (simp; done)) rfl rfl ?_
  refine At.p (some 48) (P_move rfl rfl) ?_
  refine At.gy (t := 47) rfl (by first | rfl | (simp only [zE, hv, z0, z1, z2, z3, z4, z5, z6, z7, z8]; done) | (simp only [zE, hv, z0, z1, z2, z3, z4, z5, z6, z7, z8]; simp; done) | (simp; done)) rfl rfl ?_
  refine At.q (some 49) (Q_strA (l := (vsT key c n g (b.take ((min nb 400) - 0)))) (n := ((vsT key c n g (b.take ((min nb 400) - 0))).length)) (k := 29) LN rfl Try.underlying22 Try.underlying5 Try.underlying9 rfl (fun h => g29a (by omega)) (fun _ => ⟨rfl, rfl, rfl⟩)) ?_
  refine At.gy (t := 47) rfl (by first | rfl | (simp only [zE, hv, z0, z1, z2, z3, z4, z5, z6, z7, z8]; done) | (simp only [zE, hv, z0, z1, z2, z3, z4, z5, z6, z7, z8]; simp; done) | (simp; done)) rfl rfl ?_
  refine At.p (some 50) (P_move rfl rfl) ?_
  refine At.gy (t := 47) rfl (by first | rfl | (simp only [zE, hv, z0, z1, z2, z3, z4, z5, z6, z7, z8]; done) | (simp only [zE, hv, z0, z1, z2, z3, z4, z5, z6, z7, z8]; simp; done) | (simp; done)) rfl rfl ?_
  refine At.q (some 51) (Q_strA (l := (vsT key c n g (b.take ((min nb 400) - 0)))) (n := ((vsT key c n g (b.take ((min nb 400) - 0))).length)) (k := 36) LN rfl Try.underlying22 Try.underlying5 Try.underlying9 rfl (fun h => g36a (by omega)) (fun _ => ⟨rfl, rfl, rfl⟩)) ?_
  refine At.gy (t := 47) rfl (by first | rfl | (simp only [zE, hv, z0, z1, z2, z3, z4, z5, z6, z7, z8]; done) | (simp only [zE, hv, z0, z1, z2, z3, z4, z5, z6, z7, z8]; simp; done) | (simp; done)) rfl rfl ?_
  refine At.p (some 52) (P_neq_str (a := (vsT key c n g (b.take ((min nb 400) - 0)))) (b := (vsT key c n g (b.take ((min nb 400) - 0)))) rfl rfl rfl) ?_
  refine At.p (some 53) (P_pick_f rfl rfl (by first | rfl | (simp only [zE, hv, z0, z1, z2, z3, z4, z5, z6, z7, z8]; done) | (simp only [zE, hv, z0, z1, z2, z3, z4, z5, z6, z7, z8]; simp; done) | (simp; done)) rfl) ?_
  refine At.p (some 54) (P_move rfl rfl) ?_
  refine At.gy (t := 54) rfl (by first | rfl | (simp only [zE, hv, z0, z1, z2, z3, z4, z5, z6, z7, z8]; done) | (simp only [zE, hv, z0, z1, z2, z3, z4, z5, z6, z7, z8]; simp; done) | (simp; done)) rfl rfl ?_
  refine At.p (some 55) (P_move rfl rfl) ?_
  refine At.gy (t := 54) rfl (by first | rfl | (simp only [zE, hv, z0, z1, z2, z3, z4, z5, z6, z7, z8]; done) | (simp only [zE, hv, z0, z1, z2, z3, z4, z5, z6, z7, z8]; simp; done) | (simp; done)) rfl rfl ?_
  refine At.q (some 56) (Q_strP (l := b) (n := ((min nb 400) - 0)) (k := 0) (j := 0) OG rfl Try.underlying22 Try.underlying5 Try.underlying9 rfl (fun h => cut_zero (hAb (by omega))) (fun _ => ⟨rfl, rfl, (Nat.add_zero _)⟩)) ?_
  refine At.gy (t := 54) rfl (by first | rfl | (simp only [zE, hv, z0, z1, z2, z3, z4, z5, z6, z7, z8]; done) | (simp only [zE, hv, z0, z1, z2, z3, z4, z5, z6, z7, z8]; simp; done) | (simp; done)) rfl rfl ?_
  refine At.p (some 57) (P_move rfl rfl) ?_
  refine At.gy (t := 54) rfl (by first | rfl | (simp only [zE, hv, z0, z1, z2, z3, z4, z5, z6, z7, z8]; done) | (simp only [zE, hv, z0, z1, z2, z3, z4, z5, z6, z7, z8]; simp; done) | (simp; done)) rfl rfl ?_
  refine At.p (some 58) (P_neq_str (a := (b.take ((min nb 400) - 0))) (b := (b.take ((min nb 400) - 0))) rfl rfl rfl) ?_
  refine At.p (some 59) (P_pick_f rfl rfl (by first | rfl | (simp only [zE, hv, z0, z1, z2, z3, z4, z5, z6, z7, z8]; done) | (simp only [zE, hv, z0, z1, z2, z3, z4, z5, z6, z7, z8]; simp; done) | (simp; done)) rfl) ?_
  refine At.nil ?_
  refine At.next ?_
  refine At.cond rfl (fun h59 => (by simp [zE, hv] at h59)) (fun h59 => ?_)
  have e59 : (b.take ((min nb 400) - 0)) = (b.take ((min nb 400) - 0)) := (by first | (simp; done) | simpa using h59)
  refine At.skip ?_
  refine At.next ?_
  refine At.seq ?_
  refine At.seq ?_
  refine At.region ?_
  refine At.p (some 60) (P_move rfl rfl) ?_
  refine At.p (some 61) (P_cmp rfl rfl rfl rfl rfl rfl) ?_
  refine At.nil ?_
  refine At.next ?_
  refine At.cond rfl (fun h61 => (absurd h61 (by rw [zE]; decide))) (fun h61 => ?_)
  have e61 : (vsE c n g (b.take ((min nb 400) - 0))) = 0 := bne_eq_false_iff_eq.1 h61
  refine At.skip ?_
  refine At.next ?_
  refine At.seq ?_
  refine At.region ?_
  refine At.q (some 65) (Q_loadA (k := 3) rfl rfl Try.underlying23 rfl sz23 LN rfl) ?_
  refine At.p (some 66) (P_move rfl rfl) ?_
  refine At.s (S_callV (some 67) [(29, _)] [67] (vs := [_, _]) rfl en47 rfl (VN (by simp) rfl View.all V0) (by simp) (c_VOpen (key := key) (b := (vsT key c n g (b.take ((min nb 400) - 0)))) (nb := ((vsT key c n g (b.take ((min nb 400) - 0))).length)) (Ab := A29) (cb := c29) (bb := b29) (qb := 0) LN LN (fun h => g29a (by omega)) OG OG) (by rintro _ _ ⟨A67, b67, c67, g67a, g67b, rfl, rfl⟩; rfl) ?_)
  rintro _ _ ⟨A67, b67, c67, g67a, g67b, rfl, rfl⟩
  refine At.p (some 64) (P_move rfl rfl) ?_
  refine At.p (some 68) (P_extract rfl rfl rfl) ?_
  refine At.p (some 69) (P_extract rfl rfl rfl) ?_
  refine At.p (some 70) (P_extract rfl rfl rfl) ?_
  refine At.s (S_alloc (some 12) 12 (zs := [iV 0, iV 0, iV 0]) rfl ze78 rfl (fun b12 => ?_))
  refine At.s (S_storeA none (k := 12) (vs := [iV (opC key (vsT key c n g (b.take ((min nb 400) - 0)))), iV (opN key (vsT key c n g (b.take ((min nb 400) - 0)))), iV (opG key (vsT key c n g (b.take ((min nb 400) - 0))))]) rfl rfl rfl (by rw [sz78]; exact congrArg some LN) rfl (one_cons rfl (one_cons rfl (one_cons rfl one_nil))) NG rfl LN ?_)
  refine At.p (some 13) (P_assign rfl rfl) ?_
  refine At.p (some 14) (P_assign rfl rfl) ?_
  refine At.nil ?_
  refine At.next ?_
  refine At.seq ?_
  refine At.region ?_
  refine At.p (some 72) (P_move rfl rfl) ?_
  refine At.s (S_callV (some 73) [(29, _)] [] (vs := [_]) rfl en48 rfl (VN (by simp) rfl View.all V0) (by simp) (c_Read (b := (vsT key c n g (b.take ((min nb 400) - 0)))) (nb := ((vsT key c n g (b.take ((min nb 400) - 0))).length)) (Ab := A29) (cb := c29) (bb := b29) (qb := 0) LN (fun h => g29a (by omega)) OG) (by rintro _ _ ⟨rfl, rfl⟩; rfl) ?_)
  rintro _ _ ⟨rfl, rfl⟩
  refine At.p (some 71) (P_move rfl rfl) ?_
  refine At.p (some 74) (P_extract rfl rfl rfl) ?_
  refine At.p (some 75) (P_extract rfl rfl rfl) ?_
  refine At.s (S_alloc (some 15) 15 (zs := [iV 0, iV 0, iV 0]) rfl ze78 rfl (fun b15 => ?_))
  refine At.s (S_storeA none (k := 15) (vs := [iV (rdC (vsT key c n g (b.take ((min nb 400) - 0)))), iV (rdN (vsT key c n g (b.take ((min nb 400) - 0)))), iV (rdG (vsT key c n g (b.take ((min nb 400) - 0))))]) rfl rfl rfl (by rw [sz78]; exact congrArg some LN) rfl (one_cons rfl (one_cons rfl (one_cons rfl one_nil))) NG rfl LN ?_)
  refine At.p (some 16) (P_assign rfl rfl) ?_
  refine At.nil ?_
  refine At.next ?_
  refine At.seq ?_
  refine At.draws 22 [] [.q false [0, 1, 2, 3, 4, 5, 6, 7, 8, 9, 10, 11, 12, 13, 14, 15, 16, 17, 18, 19, 20, 21]] (by kernel_rfl) (by kernel_rfl) ?_
  refine At.wp (some 76) (P_move rfl rfl) ?_
  refine At.wp (some 77) (P_cmp rfl rfl rfl rfl rfl rfl) ?_
  refine At.wp (some 78) (P_move rfl rfl) ?_
  refine At.wgy (some 79) (t := 78) rfl (by first | rfl | (simp only [zE, hv, z0, z1, z2, z3, z4, z5, z6, z7, z8]; done) | (simp only [zE, hv, z0, z1, z2, z3, z4, z5, z6, z7, z8]; simp; done) | (simp; done)) rfl rfl (P_move rfl rfl) ?_
  refine At.wgy (some 80) (t := 78) rfl (by first | rfl | (simp only [zE, hv, z0, z1, z2, z3, z4, z5, z6, z7, z8]; done) | (simp only [zE, hv, z0, z1, z2, z3, z4, z5, z6, z7, z8]; simp; done) | (simp; done)) rfl rfl (P_cmp rfl rfl rfl rfl rfl rfl) ?_
  refine At.wp (some 81) (P_pick_t rfl rfl (by first | rfl | (simp only [zE, hv, z0, z1, z2, z3, z4, z5, z6, z7, z8]; done) | (simp only [zE, hv, z0, z1, z2, z3, z4, z5, z6, z7, z8]; simp; done) | (simp; done)) rfl) ?_
  refine At.wp (some 82) (P_move rfl rfl) ?_
  refine At.wgyq (some 83) (t := 82) rfl (by first | rfl | (simp only [zE, hv, z0, z1, z2, z3, z4, z5, z6, z7, z8]; done) | (simp only [zE, hv, z0, z1, z2, z3, z4, z5, z6, z7, z8]; simp; done) | (simp; done)) rfl rfl (Q_loadA (k := 12) rfl rfl Try.underlying78 rfl sz78 LN rfl) ?_
  refine At.wgyq (some 84) (t := 82) rfl (by first | rfl | (simp only [zE, hv, z0, z1, z2, z3, z4, z5, z6, z7, z8]; done) | (simp only [zE, hv, z0, z1, z2, z3, z4, z5, z6, z7, z8]; simp; done) | (simp; done)) rfl rfl (Q_loadA (k := 4) rfl rfl Try.underlying75 rfl sz75 LN rfl) ?_
  refine At.wcVg (some 85) [] (tt := 82) rfl (by first | rfl | (simp only [zE, hv, z0, z1, z2, z3, z4, z5, z6, z7, z8]; done) | (simp only [zE, hv, z0, z1, z2, z3, z4, z5, z6, z7, z8]; simp; done) | (simp; done)) rfl rfl (vs := [_]) rfl en44 rfl V0 (c_to (c := c) (n := n) (g := g) ) ?_
  refine At.wgy (some 86) (t := 82) rfl (by first | rfl | (simp only [zE, hv, z0, z1, z2, z3, z4, z5, z6, z7, z8]; done) | (simp only [zE, hv, z0, z1, z2, z3, z4, z5, z6, z7, z8]; simp; done) | (simp; done)) rfl rfl (P_eql_flat (g := 9) (ls := [ROW.lit0 0 (.i .i64), ROW.lit0 0 (.i .i64), ROW.lit0 0 (.i .i64)] ++ []) (xs := [[iV (opC key (vsT key c n g (b.take ((min nb 400) - 0)))), iV (opN key (vsT key c n g (b.take ((min nb 400) - 0)))), iV (opG key (vsT key c n g (b.take ((min nb 400) - 0))))]].flatten) (ys := [[iV c, iV n, iV g]].flatten) (b := decide ((opC key (vsT key c n g (b.take ((min nb 400) - 0)))) = c ∧ (opN key (vsT key c n g (b.take ((min nb 400) - 0)))) = n ∧ (opG key (vsT key c n g (b.take ((min nb 400) - 0)))) = g ∧ True)) (dec_iff (eqs_cons (iV_inj _ _) (eqs_cons (iV_inj _ _) (eqs_cons (iV_inj _ _) (eqs_end eqs_nil))))) rfl (by kernel_rfl) (by kernel_rfl) (by decide) (.inl ⟨_, Try.underlying78⟩) Try.eqGuardType78 rfl rfl (okfc (okf_i (by first | omega | (constructor <;> omega)) (okf_i (by first | omega | (constructor <;> omega)) (okf_i (by first | omega | (constructor <;> omega)) okf_n))) okf0) (okfc (okf_i (by first | omega | (constructor <;> omega)) (okf_i (by first | omega | (constructor <;> omega)) (okf_i (by first | omega | (constructor <;> omega)) okf_n))) okf0)) ?_
  refine At.wp (some 87) (P_pick_t rfl rfl (by first | rfl | (simp only [zE, hv, z0, z1, z2, z3, z4, z5, z6, z7, z8]; done) | (simp only [zE, hv, z0, z1, z2, z3, z4, z5, z6, z7, z8]; simp; done) | (simp; done)) rfl) ?_
  refine At.wp (some 88) (P_move rfl rfl) ?_
  refine At.wgyq (some 89) (t := 88) rfl (by first | rfl | (simp only [zE, hv, z0, z1, z2, z3, z4, z5, z6, z7, z8]; done) | (simp only [zE, hv, z0, z1, z2, z3, z4, z5, z6, z7, z8]; simp; done) | (simp; done)) rfl rfl (Q_loadA (k := 15) rfl rfl Try.underlying78 rfl sz78 LN rfl) ?_
  refine At.wgyq (some 90) (t := 88) rfl (by first | rfl | (simp only [zE, hv, z0, z1, z2, z3, z4, z5, z6, z7, z8]; done) | (simp only [zE, hv, z0, z1, z2, z3, z4, z5, z6, z7, z8]; simp; done) | (simp; done)) rfl rfl (Q_loadA (k := 12) rfl rfl Try.underlying78 rfl sz78 LN rfl) ?_
  refine At.wgy (some 91) (t := 88) rfl (by first | rfl | (simp only [zE, hv, z0, z1, z2, z3, z4, z5, z6, z7, z8]; done) | (simp only [zE, hv, z0, z1, z2, z3, z4, z5, z6, z7, z8]; simp; done) | (simp; done)) rfl rfl (P_eql_flat (g := 9) (ls := [ROW.lit0 0 (.i .i64), ROW.lit0 0 (.i .i64), ROW.lit0 0 (.i .i64)] ++ []) (xs := [[iV (rdC (vsT key c n g (b.take ((min nb 400) - 0)))), iV (rdN (vsT key c n g (b.take ((min nb 400) - 0)))), iV (rdG (vsT key c n g (b.take ((min nb 400) - 0))))]].flatten) (ys := [[iV (opC key (vsT key c n g (b.take ((min nb 400) - 0)))), iV (opN key (vsT key c n g (b.take ((min nb 400) - 0)))), iV (opG key (vsT key c n g (b.take ((min nb 400) - 0))))]].flatten) (b := decide ((rdC (vsT key c n g (b.take ((min nb 400) - 0)))) = (opC key (vsT key c n g (b.take ((min nb 400) - 0)))) ∧ (rdN (vsT key c n g (b.take ((min nb 400) - 0)))) = (opN key (vsT key c n g (b.take ((min nb 400) - 0)))) ∧ (rdG (vsT key c n g (b.take ((min nb 400) - 0)))) = (opG key (vsT key c n g (b.take ((min nb 400) - 0)))) ∧ True)) (dec_iff (eqs_cons (iV_inj _ _) (eqs_cons (iV_inj _ _) (eqs_cons (iV_inj _ _) (eqs_end eqs_nil))))) rfl (by kernel_rfl) (by kernel_rfl) (by decide) (.inl ⟨_, Try.underlying78⟩) Try.eqGuardType78 rfl rfl (okfc (okf_i (by first | omega | (constructor <;> omega)) (okf_i (by first | omega | (constructor <;> omega)) (okf_i (by first | omega | (constructor <;> omega)) okf_n))) okf0) (okfc (okf_i (by first | omega | (constructor <;> omega)) (okf_i (by first | omega | (constructor <;> omega)) (okf_i (by first | omega | (constructor <;> omega)) okf_n))) okf0)) ?_
  refine At.wp (some 92) (P_pick_t rfl rfl (by first | rfl | (simp only [zE, hv, z0, z1, z2, z3, z4, z5, z6, z7, z8]; done) | (simp only [zE, hv, z0, z1, z2, z3, z4, z5, z6, z7, z8]; simp; done) | (simp; done)) rfl) ?_
  refine At.wp (some 93) (P_move rfl rfl) ?_
  refine At.wgy (some 94) (t := 93) rfl (by first | rfl | (simp only [zE, hv, z0, z1, z2, z3, z4, z5, z6, z7, z8]; done) | (simp only [zE, hv, z0, z1, z2, z3, z4, z5, z6, z7, z8]; simp; done) | (simp; done)) rfl rfl (P_move rfl rfl) ?_
  refine At.wgyq (some 95) (t := 93) rfl (by first | rfl | (simp only [zE, hv, z0, z1, z2, z3, z4, z5, z6, z7, z8]; done) | (simp only [zE, hv, z0, z1, z2, z3, z4, z5, z6, z7, z8]; simp; done) | (simp; done)) rfl rfl (Q_strA (l := (opT key (vsT key c n g (b.take ((min nb 400) - 0))))) (n := ((opT key (vsT key c n g (b.take ((min nb 400) - 0)))).length)) (k := 67) LN rfl Try.underlying22 Try.underlying5 Try.underlying9 rfl (fun h => g67a (by omega)) (fun _ => ⟨rfl, rfl, rfl⟩)) ?_
  refine At.wgy (some 96) (t := 93) rfl (by first | rfl | (simp only [zE, hv, z0, z1, z2, z3, z4, z5, z6, z7, z8]; done) | (simp only [zE, hv, z0, z1, z2, z3, z4, z5, z6, z7, z8]; simp; done) | (simp; done)) rfl rfl (P_move rfl rfl) ?_
  refine At.wgyq (some 97) (t := 93) rfl (by first | rfl | (simp only [zE, hv, z0, z1, z2, z3, z4, z5, z6, z7, z8]; done) | (simp only [zE, hv, z0, z1, z2, z3, z4, z5, z6, z7, z8]; simp; done) | (simp; done)) rfl rfl (Q_strP (l := b) (n := ((min nb 400) - 0)) (k := 0) (j := 0) OG rfl Try.underlying22 Try.underlying5 Try.underlying9 rfl (fun h => cut_zero (hAb (by omega))) (fun _ => ⟨rfl, rfl, (Nat.add_zero _)⟩)) ?_
  refine At.wqn ?_
  refine At.wt rfl ?_
  refine At.gy (t := 93) rfl (by first | rfl | (simp only [zE, hv, z0, z1, z2, z3, z4, z5, z6, z7, z8]; done) | (simp only [zE, hv, z0, z1, z2, z3, z4, z5, z6, z7, z8]; simp; done) | (simp; done)) rfl rfl ?_
  refine At.p (some 98) (P_eql_str (a := (opT key (vsT key c n g (b.take ((min nb 400) - 0))))) (b := (b.take ((min nb 400) - 0))) rfl rfl rfl) ?_
  refine At.p (some 99) (P_pick_t rfl rfl (by first | rfl | (simp only [zE, hv, z0, z1, z2, z3, z4, z5, z6, z7, z8]; done) | (simp only [zE, hv, z0, z1, z2, z3, z4, z5, z6, z7, z8]; simp; done) | (simp; done)) rfl) ?_
  refine At.p (some 6) (P_assign rfl rfl) ?_
  refine At.nil ?_
  refine At.next ?_
  refine At.ret ?_
  have hq0 : (decide ((opT key (vsT key c n g (b.take ((min nb 400) - 0)))) = (b.take ((min nb 400) - 0)))) = true := (by first | rfl | (simp only [zE, hv, z0, z1, z2, z3, z4, z5, z6, z7, z8]; done) | (simp only [zE, hv, z0, z1, z2, z3, z4, z5, z6, z7, z8]; simp; done) | (simp; done))
  refine At.give (.inl rfl) [] (rows' := []) (vs := [_]) rfl ⟨rfl, trivial⟩ rfl (by simp) (by simp) ⟨(by first | (rw [hq0]; try rfl; done) | (rw [← hq0]; try rfl; done) | (simp only [hq0]; try rfl; done) | (simp only [← hq0]; try rfl; done) | rfl), (by first | (rw [hq0]; try rfl; done) | (rw [← hq0]; try rfl; done) | (simp only [hq0]; try rfl; done) | (simp only [← hq0]; try rfl; done) | rfl)⟩

set_option maxHeartbeats 2000000 in
theorem l_Seals_f {key : List (BitVec 8)} {c : Int} {n : Int} {g : Int} {b : List (BitVec 8)} {Ab : Option Addr} {nb cb bb qb : Nat} (hkey : key.length = 32) (hnb : b.length = nb) (hAb : 0 < nb → Ab = some ⟨bb, qb, none⟩) (hcb : nb ≤ cb) (hv : vsOk c n g (b.take (min nb 400 - 0)) = false) :
    Con Try.prog 10 [aggK key, .agg ([iV c, iV n, iV g]).toArray, .slice Ab nb cb] [pRow bb qb b] (fun v rs => v = .bool true ∧ rs = []) := by
  refine Con.enter Try.func10 Try.ntmps10 (Nat.le_of_ble_eq_true rfl) rfl fun w => ?_
  refine At.seq ?_
  refine At.region ?_
  refine At.s (S_box (some 3) 3 (zs := (key).map u8V) rfl rfl rfl (fun b3 => ?_))
  refine At.s (S_box (some 4) 4 (zs := [iV c, iV n, iV g]) rfl rfl rfl (fun b4 => ?_))
  refine At.p (some 6) (P_assign rfl rfl) ?_
  refine At.nil ?_
  refine At.next ?_
  refine At.seq ?_
  have hbl : (b.take (min nb 400 - 0)).length ≤ 400 := by rw [List.length_take]; omega
  refine At.region ?_
  refine At.p (some 17) (P_move rfl rfl) ?_
  refine At.p (some 18) (P_move rfl rfl) ?_
  refine At.p (some 19) (P_len_sl rfl rfl ⟨_, Try.underlying22⟩ rfl) ?_
  refine At.p (some 20) (P_min2 rfl rfl rfl rfl) ?_
  refine At.p (some 21) (P_slice_sl (l := 0) (h := (min nb 400)) (m := cb) rfl Try.underlying22 sz5 rfl rfl ⟨_, _, rfl, by omega⟩ rfl DO DO DO) ?_
  refine At.p (some 2) (P_assign rfl rfl) ?_
  refine At.nil ?_
  refine At.next ?_
  refine At.seq ?_
  have zE := vsE_f hv
  have zT := vsT_f (key := key) hv
  have z9 : (vsT key c n g (b.take (min nb 400 - 0))).length = 0 := by rw [zT]; rfl
  refine At.region ?_
  refine At.p (some 22) (P_move rfl rfl) ?_
  refine At.q (some 23) (Q_strP (l := b) (n := ((min nb 400) - 0)) (k := 0) (j := 0) OG rfl Try.underlying22 Try.underlying5 Try.underlying9 rfl (fun h => cut_zero (hAb (by omega))) (fun _ => ⟨rfl, rfl, (Nat.add_zero _)⟩)) ?_
  refine At.p (some 7) (P_assign rfl rfl) ?_
  refine At.nil ?_
  refine At.next ?_
  refine At.seq ?_
  refine At.draws 9 [] [.q false [0, 1, 2, 3], .e false 4, .q false [5, 6, 7, 8]] (by kernel_rfl) (by kernel_rfl) ?_
  refine At.wq (some 25) (Q_loadA (k := 3) rfl rfl Try.underlying23 rfl sz23 LN rfl) ?_
  refine At.wq (some 26) (Q_loadA (k := 4) rfl rfl Try.underlying75 rfl sz75 LN rfl) ?_
  refine At.wcV (some 27) [] (vs := [_]) rfl en44 rfl V0 (c_to (c := c) (n := n) (g := g) ) ?_
  refine At.wp (some 28) (P_move rfl rfl) ?_
  refine At.wqn ?_
  refine At.we ?_
  refine SStep.up (S_callV (some 29) [(0, _)] [29] (vs := [_, _, _]) rfl en43 rfl (VN (by simp) rfl (View.sub (j := 0) (m := ((min nb 400) - 0)) RO rfl) V0) (by simp) (c_VSeal (key := key) (c := c) (n := n) (g := g) (b := (b.take ((min nb 400) - 0))) (nb := ((min nb 400) - 0)) (Ab := (cut Ab 0 cb 1)) (cb := (cb - 0)) (bb := bb) (qb := qb) LN LN (fun h => cut_zero (hAb (by omega)))) (by rintro _ _ ⟨A29, b29, c29, g29a, g29b, rfl, rfl⟩; rfl) ?_)
  rintro _ _ ⟨A29, b29, c29, g29a, g29b, rfl, rfl⟩
  refine At.wp (some 24) (P_move rfl rfl) ?_
  refine At.wp (some 30) (P_extract rfl rfl rfl) ?_
  refine At.wp (some 31) (P_extract rfl rfl rfl) ?_
  refine At.wp (some 8) (P_assign rfl rfl) ?_
  refine At.wqn ?_
  refine At.wt rfl ?_
  refine At.p (some 9) (P_assign rfl rfl) ?_
  refine At.nil ?_
  refine At.next ?_
  refine At.seq ?_
  refine At.region ?_
  refine At.q (some 33) (Q_loadA (k := 3) rfl rfl Try.underlying23 rfl sz23 LN rfl) ?_
  refine At.q (some 34) (Q_loadA (k := 4) rfl rfl Try.underlying75 rfl sz75 LN rfl) ?_
  refine At.p (some 35) (P_move rfl rfl) ?_
  refine At.s (S_callV (some 36) [(0, _)] [36] (vs := [_, _, _]) rfl en45 rfl (VN (by simp) rfl (View.sub (j := 0) (m := ((min nb 400) - 0)) RO rfl) V0) (by simp) (r_VSeal (key := key) (c := c) (n := n) (g := g) (b := (b.take ((min nb 400) - 0))) (nb := ((min nb 400) - 0)) (Ab := (cut Ab 0 cb 1)) (cb := (cb - 0)) (bb := bb) (qb := qb) LN LN (fun h => cut_zero (hAb (by omega)))) (by rintro _ _ ⟨A36, b36, c36, g36a, g36b, rfl, rfl⟩; rfl) ?_)
  rintro _ _ ⟨A36, b36, c36, g36a, g36b, rfl, rfl⟩
  refine At.p (some 32) (P_move rfl rfl) ?_
  refine At.p (some 37) (P_extract rfl rfl rfl) ?_
  refine At.p (some 38) (P_extract rfl rfl rfl) ?_
  refine At.p (some 10) (P_assign rfl rfl) ?_
  refine At.p (some 11) (P_assign rfl rfl) ?_
  refine At.nil ?_
  refine At.next ?_
  refine At.seq ?_
  refine At.seq ?_
  refine At.region ?_
  refine At.s (S_callV (some 39) [] [] (vs := []) rfl en46 rfl V0 (by simp) (c_keeps  ) (by rintro _ _ ⟨rfl, rfl⟩; rfl) ?_)
  rintro _ _ ⟨rfl, rfl⟩
  refine At.p (some 40) (P_not rfl rfl) ?_
  refine At.p (some 41) (P_move rfl rfl) ?_
  refine At.gy (t := 41) rfl (by first | rfl | (simp only [zE, hv, zT]; done) | (simp only [zE, hv, zT]; simp; done) | (simp; done)) rfl rfl ?_
  refine At.p (some 42) (P_move rfl rfl) ?_
  refine At.gy (t := 41) rfl (by first | rfl | (simp only [zE, hv, zT]; done) | (simp only [zE, hv, zT]; simp; done) | (simp; done)) rfl rfl ?_
  refine At.p (some 43) (P_cmp rfl rfl rfl rfl rfl rfl) ?_
  refine At.gy (t := 41) rfl (by first | rfl | (simp only [zE, hv, zT]; done) | (simp only [zE, hv, zT]; simp; done) | (simp; done)) rfl rfl ?_
  refine At.p (some 44) (P_move rfl rfl) ?_
  refine At.gy (t := 41) rfl (by first | rfl | (simp only [zE, hv, zT]; done) | (simp only [zE, hv, zT]; simp; done) | (simp; done)) rfl rfl ?_
  refine At.p (some 45) (P_neq_bool rfl Try.underlying4 rfl rfl) ?_
  refine At.p (some 46) (P_pick_f rfl rfl (by first | rfl | (simp only [zE, hv, zT]; done) | (simp only [zE, hv, zT]; simp; done) | (simp; done)) rfl) ?_
  refine At.p (some 47) (P_move rfl rfl) ?_
  refine At.gy (t := 47) rfl (by first | rfl | (simp only [zE, hv, zT]; done) | (simp only [zE, hv, zT]; simp; done) | (simp; done)) rfl rfl ?_
  refine At.p (some 48) (P_move rfl rfl) ?_
  refine At.gy (t := 47) rfl (by first | rfl | (simp only [zE, hv, zT]; done) | (simp only [zE, hv, zT]; simp; done) | (simp; done)) rfl rfl ?_
  refine At.q (some 49) (Q_strA (l := (vsT key c n g (b.take ((min nb 400) - 0)))) (n := ((vsT key c n g (b.take ((min nb 400) - 0))).length)) (k := 29) LN rfl Try.underlying22 Try.underlying5 Try.underlying9 rfl (fun h => g29a (by omega)) (fun _ => ⟨rfl, rfl, rfl⟩)) ?_
  refine At.gy (t := 47) rfl (by first | rfl | (simp only [zE, hv, zT]; done) | (simp only [zE, hv, zT]; simp; done) | (simp; done)) rfl rfl ?_
  refine At.p (some 50) (P_move rfl rfl) ?_
  refine At.gy (t := 47) rfl (by first | rfl | (simp only [zE, hv, zT]; done) | (simp only [zE, hv, zT]; simp; done) | (simp; done)) rfl rfl ?_
  refine At.q (some 51) (Q_strA (l := (vsT key c n g (b.take ((min nb 400) - 0)))) (n := ((vsT key c n g (b.take ((min nb 400) - 0))).length)) (k := 36) LN rfl Try.underlying22 Try.underlying5 Try.underlying9 rfl (fun h => g36a (by omega)) (fun _ => ⟨rfl, rfl, rfl⟩)) ?_
  refine At.gy (t := 47) rfl (by first | rfl | (simp only [zE, hv, zT]; done) | (simp only [zE, hv, zT]; simp; done) | (simp; done)) rfl rfl ?_
  refine At.p (some 52) (P_neq_str (a := (vsT key c n g (b.take ((min nb 400) - 0)))) (b := (vsT key c n g (b.take ((min nb 400) - 0)))) rfl rfl rfl) ?_
  refine At.p (some 53) (P_pick_f rfl rfl (by first | rfl | (simp only [zE, hv, zT]; done) | (simp only [zE, hv, zT]; simp; done) | (simp; done)) rfl) ?_
  refine At.p (some 54) (P_move rfl rfl) ?_
  refine At.gy (t := 54) rfl (by first | rfl | (simp only [zE, hv, zT]; done) | (simp only [zE, hv, zT]; simp; done) | (simp; done)) rfl rfl ?_
  refine At.p (some 55) (P_move rfl rfl) ?_
  refine At.gy (t := 54) rfl (by first | rfl | (simp only [zE, hv, zT]; done) | (simp only [zE, hv, zT]; simp; done) | (simp; done)) rfl rfl ?_
  refine At.q (some 56) (Q_strP (l := b) (n := ((min nb 400) - 0)) (k := 0) (j := 0) OG rfl Try.underlying22 Try.underlying5 Try.underlying9 rfl (fun h => cut_zero (hAb (by omega))) (fun _ => ⟨rfl, rfl, (Nat.add_zero _)⟩)) ?_
  refine At.gy (t := 54) rfl (by first | rfl | (simp only [zE, hv, zT]; done) | (simp only [zE, hv, zT]; simp; done) | (simp; done)) rfl rfl ?_
  refine At.p (some 57) (P_move rfl rfl) ?_
  refine At.gy (t := 54) rfl (by first | rfl | (simp only [zE, hv, zT]; done) | (simp only [zE, hv, zT]; simp; done) | (simp; done)) rfl rfl ?_
  refine At.p (some 58) (P_neq_str (a := (b.take ((min nb 400) - 0))) (b := (b.take ((min nb 400) - 0))) rfl rfl rfl) ?_
  refine At.p (some 59) (P_pick_f rfl rfl (by first | rfl | (simp only [zE, hv, zT]; done) | (simp only [zE, hv, zT]; simp; done) | (simp; done)) rfl) ?_
  refine At.nil ?_
  refine At.next ?_
  refine At.cond rfl (fun h59 => (by simp [zE, hv] at h59)) (fun h59 => ?_)
  have e59 : (b.take ((min nb 400) - 0)) = (b.take ((min nb 400) - 0)) := (by first | (simp; done) | simpa using h59)
  refine At.skip ?_
  refine At.next ?_
  refine At.seq ?_
  refine At.seq ?_
  refine At.region ?_
  refine At.p (some 60) (P_move rfl rfl) ?_
  refine At.p (some 61) (P_cmp rfl rfl rfl rfl rfl rfl) ?_
  refine At.nil ?_
  refine At.next ?_
  refine At.cond rfl (fun h61 => ?_) (fun h61 => (absurd h61 (by rw [zE]; decide)))
  have e61 : (vsE c n g (b.take ((min nb 400) - 0))) ≠ 0 := bne_iff_ne.1 h61
  refine At.seq ?_
  refine At.region ?_
  refine At.p (some 62) (P_move rfl rfl) ?_
  refine At.p (some 63) (P_cmp rfl rfl rfl rfl rfl rfl) ?_
  refine At.p (some 6) (P_assign rfl rfl) ?_
  refine At.nil ?_
  refine At.next ?_
  refine At.ret ?_
  refine At.thn_r ?_
  have hq0 : ((vsE c n g (b.take ((min nb 400) - 0))) == 1) = true := (by first | rfl | (simp only [zE, hv, zT]; done) | (simp only [zE, hv, zT]; simp; done) | (simp; done))
  refine At.give (.inl rfl) [] (rows' := []) (vs := [_]) rfl ⟨rfl, trivial⟩ rfl (by simp) (by simp) ⟨(by first | (rw [hq0]; try rfl; done) | (rw [← hq0]; try rfl; done) | (simp only [hq0]; try rfl; done) | (simp only [← hq0]; try rfl; done) | rfl), (by first | (rw [hq0]; try rfl; done) | (rw [← hq0]; try rfl; done) | (simp only [hq0]; try rfl; done) | (simp only [← hq0]; try rfl; done) | rfl)⟩

theorem l_Seals {key : List (BitVec 8)} {c : Int} {n : Int} {g : Int} {b : List (BitVec 8)} {Ab : Option Addr} {nb cb bb qb : Nat} (hkey : key.length = 32) (hnb : b.length = nb) (hAb : 0 < nb → Ab = some ⟨bb, qb, none⟩) (hcb : nb ≤ cb) :
    Con Try.prog 10 [aggK key, .agg ([iV c, iV n, iV g]).toArray, .slice Ab nb cb] [pRow bb qb b] (fun v rs => v = .bool true ∧ rs = []) := by
  cases hv : vsOk c n g (b.take (min nb 400 - 0))
  · exact l_Seals_f hkey hnb hAb hcb hv
  · exact l_Seals_t hkey hnb hAb hcb hv

set_option maxHeartbeats 2000000 in
theorem l_Opens {key : List (BitVec 8)} {c : Int} {n : Int} {g : Int} {d0 : Int} {d1 : Int} {d2 : Int} (hkey : key.length = 32) :
    Con Try.prog 11 [aggK key, .agg ([iV c, iV n, iV g]).toArray, .agg ([iV d0, iV d1, iV d2]).toArray] [] (fun v rs => v = .bool true ∧ rs = []) := by
  refine Con.enter Try.func11 Try.ntmps11 (Nat.le_of_ble_eq_true rfl) rfl fun w => ?_
  refine At.seq ?_
  refine At.region ?_
  refine At.s (S_box (some 3) 3 (zs := (key).map u8V) rfl rfl rfl (fun b3 => ?_))
  refine At.s (S_box (some 4) 4 (zs := [iV c, iV n, iV g]) rfl rfl rfl (fun b4 => ?_))
  refine At.s (S_box (some 5) 5 (zs := [iV d0, iV d1, iV d2]) rfl rfl rfl (fun b5 => ?_))
  refine At.p (some 6) (P_assign rfl rfl) ?_
  refine At.nil ?_
  refine At.next ?_
  refine At.seq ?_
  refine At.draws 13 [] [.q false [0, 1, 2, 3, 4, 5, 6], .e false 7, .e false 8, .q false [9, 10, 11, 12]] (by kernel_rfl) (by kernel_rfl) ?_
  refine At.wq (some 19) (Q_loadA (k := 3) rfl rfl Try.underlying23 rfl sz23 LN rfl) ?_
  refine At.wq (some 20) (Q_loadA (k := 4) rfl rfl Try.underlying75 rfl sz75 LN rfl) ?_
  refine At.wp (some 21) (P_indexAddr_arr1 (j := 2) rfl Try.underlying87 sz3 rfl rfl rfl (by decide)) ?_
  refine At.wq (some 22) (Q_loadO (k := 5) rfl rfl Try.underlying3 rfl rfl rfl) ?_
  refine At.wp (some 23) (P_conv_iw UK.u64 rfl Try.underlying3 Try.underlying49 rfl) ?_
  refine At.wp (some 24) (P_rem_w UK.u64 (b := 60#64) rfl rfl rfl (by decide)) ?_
  obtain ⟨k25, hk25, hek25, hdk25⟩ := umod_c ((BitVec.ofInt 64 d2)) 60#64 (by decide) (by decide)
  have hk25 : k25 < 60 := hk25
  refine At.wp (some 25) (P_conv_WiE hek25 rfl Try.underlying49 Try.underlying3 rfl) ?_
  refine At.wqn ?_
  refine At.we ?_
  refine S_makeN (some 26) 26 (n := k25) (cs := ((List.replicate k25 0#8)).map u8V) rfl Try.underlying22 sz5 by5 ze5 rfl rfl (by omega) (by omega) (by omega) (by omega) ((made_one (n := k25) (by omega)).trans (by rw [List.map_replicate]; rfl)) (fun b26 => ?_)
  refine At.we ?_
  refine SStep.up (S_callV (some 27) [(26, _)] [27] (vs := [_, _, _]) rfl en45 rfl (VN (by simp) rfl View.all V0) (by simp) (r_VSeal (key := key) (c := c) (n := n) (g := g) (b := (List.replicate k25 0#8)) (nb := k25) (Ab := (some ⟨b26, 0, none⟩)) (cb := k25) (bb := b26) (qb := 0) LN LN (fun _ => rfl)) (by rintro _ _ ⟨A27, b27, c27, g27a, g27b, rfl, rfl⟩; rfl) ?_)
  rintro _ _ ⟨A27, b27, c27, g27a, g27b, rfl, rfl⟩
  refine At.wp (some 18) (P_move rfl rfl) ?_
  refine At.wp (some 28) (P_extract rfl rfl rfl) ?_
  refine At.wp (some 29) (P_extract rfl rfl rfl) ?_
  refine At.wp (some 7) (P_assign rfl rfl) ?_
  refine At.wqn ?_
  refine At.wt rfl ?_
  refine At.p (some 8) (P_assign rfl rfl) ?_
  refine At.nil ?_
  refine At.next ?_
  refine At.seq ?_
  refine At.seq ?_
  refine At.region ?_
  refine At.s (S_callV (some 30) [] [] (vs := []) rfl en46 rfl V0 (by simp) (c_keeps  ) (by rintro _ _ ⟨rfl, rfl⟩; rfl) ?_)
  rintro _ _ ⟨rfl, rfl⟩
  refine At.p (some 31) (P_not rfl rfl) ?_
  refine At.p (some 32) (P_move rfl rfl) ?_
  refine At.gy (t := 32) rfl (by first | rfl | (simp; done) | (simp only [hA2]; simp; done)) rfl rfl ?_
  refine At.p (some 33) (P_move rfl rfl) ?_
  refine At.gy (t := 32) rfl (by first | rfl | (simp; done) | (simp only [hA2]; simp; done)) rfl rfl ?_
  refine At.p (some 34) (P_not rfl rfl) ?_
  refine At.p (some 35) (P_pick_f rfl rfl (by first | rfl | (simp; done) | (simp only [hA2]; simp; done)) rfl) ?_
  refine At.nil ?_
  refine At.next ?_
  refine At.cond rfl (fun h35 => ?_) (fun h35 => ?_)
  · -- cond 35 t
    refine At.seq ?_
    refine At.region ?_
    refine At.s (S_callV (some 36) [] [] (vs := []) rfl en46 rfl V0 (by simp) (c_keeps  ) (by rintro _ _ ⟨rfl, rfl⟩; rfl) ?_)
    rintro _ _ ⟨rfl, rfl⟩
    refine At.p (some 6) (P_assign rfl rfl) ?_
    refine At.nil ?_
    refine At.next ?_
    refine At.ret ?_
    refine At.thn_r ?_
    have hq0 : true = true := (by first | rfl | (rcases hA with h | h <;> simp_all))
    refine At.give (.inl rfl) [] (rows' := []) (vs := [_]) rfl ⟨rfl, trivial⟩ rfl (by simp) (by simp) ⟨(by first | (rw [hq0]; try rfl; done) | (rw [← hq0]; try rfl; done) | (simp only [hq0]; try rfl; done) | (simp only [← hq0]; try rfl; done) | rfl), (by first | (rw [hq0]; try rfl; done) | (rw [← hq0]; try rfl; done) | (simp only [hq0]; try rfl; done) | (simp only [← hq0]; try rfl; done) | rfl)⟩
  · -- cond 35 f
    have hv : vsOk c n g (List.replicate k25 0#8) = true := by simpa using h35
    obtain ⟨z0, z1, z2, z3, z4, z5, z6, z7, z8, z9⟩ := vs_open (key := key) hv
    have hvl : (vsT key c n g (List.replicate k25 0#8)).length = k25 + 26 := by rw [z9, List.length_replicate]
    refine At.skip ?_
    refine At.next ?_
    refine At.seq ?_
    refine At.region ?_
    refine At.p (some 37) (P_indexAddr_arr1 (j := 0) rfl Try.underlying87 sz3 rfl rfl rfl (by decide)) ?_
    refine At.q (some 38) (Q_loadO (k := 5) rfl rfl Try.underlying3 rfl rfl rfl) ?_
    refine At.p (some 39) (P_conv_iw UK.u64 rfl Try.underlying3 Try.underlying49 rfl) ?_
    refine At.p (some 40) (P_move rfl rfl) ?_
    refine At.p (some 41) (P_len_sl rfl rfl ⟨_, Try.underlying22⟩ rfl) ?_
    refine At.p (some 42) (P_conv_iw UK.u64 rfl Try.underlying3 Try.underlying49 rfl) ?_
    refine At.p (some 43) (P_rem_w UK.u64 rfl rfl rfl (umod_nz (n := (vsT key c n g (List.replicate k25 0#8)).length) OG OG)) ?_
    obtain ⟨k44, hk44, hek44, hdk44⟩ := umod_n ((BitVec.ofInt 64 d0)) ((vsT key c n g (List.replicate k25 0#8)).length) OG OG
    refine At.p (some 44) (P_conv_WiE hek44 rfl Try.underlying49 Try.underlying3 rfl) ?_
    refine At.p (some 9) (P_assign rfl rfl) ?_
    refine At.nil ?_
    refine At.next ?_
    refine At.seq ?_
    refine At.seq ?_
    refine At.region ?_
    refine At.p (some 45) (P_indexAddr_arr1 (j := 1) rfl Try.underlying87 sz3 rfl rfl rfl (by decide)) ?_
    refine At.q (some 46) (Q_loadO (k := 5) rfl rfl Try.underlying3 rfl rfl rfl) ?_
    refine At.p (some 47) (P_rem_any rfl rfl rfl (by decide)) ?_
    refine At.p (some 48) (P_cmp rfl rfl rfl rfl rfl rfl) ?_
    refine At.nil ?_
    refine At.next ?_
    refine At.cond rfl (fun h48 => ?_) (fun h48 => ?_)
    · -- cond 48 t
      have e48 : (d1.tmod 5) = 4 := eq_of_beq h48
      refine At.region ?_
      refine At.p (some 49) (P_move rfl rfl) ?_
      refine At.p (some 50) (P_move rfl rfl) ?_
      refine At.p (some 51) (P_slice_sl (l := 0) (h := k44) (m := c27) rfl Try.underlying22 sz5 rfl rfl ⟨_, _, rfl, by omega⟩ rfl DO DO DO) ?_
      refine At.p (some 7) (P_assign rfl rfl) ?_
      refine At.nil ?_
      refine At.next ?_
      refine At.seq ?_
      refine At.region ?_
      refine At.q (some 62) (Q_loadA (k := 3) rfl rfl Try.underlying23 rfl sz23 LN rfl) ?_
      refine At.p (some 63) (P_move rfl rfl) ?_
      refine At.s (S_callV (some 64) [(27, _)] [64] (vs := [_, _]) rfl en47 rfl (VN (by simp) rfl (View.sub (j := 0) (m := (k44 - 0)) RO rfl) V0) (by simp) (c_VOpen (key := key) (b := ((vsT key c n g (List.replicate k25 0#8)).take (k44 - 0))) (nb := (k44 - 0)) (Ab := (cut A27 0 c27 1)) (cb := (c27 - 0)) (bb := b27) (qb := 0) LN LN (fun h => cut_zero ((fun h => g27a (by omega)) (by omega))) OG OG) (by rintro _ _ ⟨A64, b64, c64, g64a, g64b, rfl, rfl⟩; rfl) ?_)
      rintro _ _ ⟨A64, b64, c64, g64a, g64b, rfl, rfl⟩
      refine At.p (some 61) (P_move rfl rfl) ?_
      refine At.p (some 65) (P_extract rfl rfl rfl) ?_
      refine At.p (some 66) (P_extract rfl rfl rfl) ?_
      refine At.p (some 67) (P_extract rfl rfl rfl) ?_
      refine At.s (S_alloc (some 10) 10 (zs := [iV 0, iV 0, iV 0]) rfl ze78 rfl (fun b10 => ?_))
      refine At.s (S_storeA none (k := 10) (vs := [iV (opC key ((vsT key c n g (List.replicate k25 0#8)).take (k44 - 0))), iV (opN key ((vsT key c n g (List.replicate k25 0#8)).take (k44 - 0))), iV (opG key ((vsT key c n g (List.replicate k25 0#8)).take (k44 - 0)))]) rfl rfl rfl (by rw [sz78]; exact congrArg some LN) rfl (one_cons rfl (one_cons rfl (one_cons rfl one_nil))) NG rfl LN ?_)
      refine At.p (some 11) (P_assign rfl rfl) ?_
      refine At.p (some 12) (P_assign rfl rfl) ?_
      refine At.nil ?_
      refine At.next ?_
      refine At.seq ?_
      refine At.region ?_
      refine At.q (some 69) (Q_loadA (k := 3) rfl rfl Try.underlying23 rfl sz23 LN rfl) ?_
      refine At.p (some 70) (P_move rfl rfl) ?_
      refine At.s (S_callV (some 71) [(27, _)] [71] (vs := [_, _]) rfl en49 rfl (VN (by simp) rfl (View.sub (j := 0) (m := (k44 - 0)) RO rfl) V0) (by simp) (r_VOpen (key := key) (b := ((vsT key c n g (List.replicate k25 0#8)).take (k44 - 0))) (nb := (k44 - 0)) (Ab := (cut A27 0 c27 1)) (cb := (c27 - 0)) (bb := b27) (qb := 0) LN LN (fun h => cut_zero ((fun h => g27a (by omega)) (by omega))) OG OG) (by rintro _ _ ⟨A71, b71, c71, g71a, g71b, rfl, rfl⟩; rfl) ?_)
      rintro _ _ ⟨A71, b71, c71, g71a, g71b, rfl, rfl⟩
      refine At.p (some 68) (P_move rfl rfl) ?_
      refine At.p (some 72) (P_extract rfl rfl rfl) ?_
      refine At.p (some 73) (P_extract rfl rfl rfl) ?_
      refine At.p (some 74) (P_extract rfl rfl rfl) ?_
      refine At.s (S_alloc (some 13) 13 (zs := [iV 0, iV 0, iV 0]) rfl ze75 rfl (fun b13 => ?_))
      refine At.s (S_storeA none (k := 13) (vs := [iV (opC key ((vsT key c n g (List.replicate k25 0#8)).take (k44 - 0))), iV (opN key ((vsT key c n g (List.replicate k25 0#8)).take (k44 - 0))), iV (opG key ((vsT key c n g (List.replicate k25 0#8)).take (k44 - 0)))]) rfl rfl rfl (by rw [sz75]; exact congrArg some LN) rfl (one_cons rfl (one_cons rfl (one_cons rfl one_nil))) NG rfl LN ?_)
      refine At.p (some 14) (P_assign rfl rfl) ?_
      refine At.p (some 15) (P_assign rfl rfl) ?_
      refine At.nil ?_
      refine At.next ?_
      refine At.seq ?_
      refine At.region ?_
      refine At.p (some 76) (P_move rfl rfl) ?_
      refine At.s (S_callV (some 77) [(27, _)] [] (vs := [_]) rfl en48 rfl (VN (by simp) rfl (View.sub (j := 0) (m := (k44 - 0)) RO rfl) V0) (by simp) (c_Read (b := ((vsT key c n g (List.replicate k25 0#8)).take (k44 - 0))) (nb := (k44 - 0)) (Ab := (cut A27 0 c27 1)) (cb := (c27 - 0)) (bb := b27) (qb := 0) LN (fun h => cut_zero ((fun h => g27a (by omega)) (by omega))) OG) (by rintro _ _ ⟨rfl, rfl⟩; rfl) ?_)
      rintro _ _ ⟨rfl, rfl⟩
      refine At.p (some 75) (P_move rfl rfl) ?_
      refine At.p (some 78) (P_extract rfl rfl rfl) ?_
      refine At.p (some 79) (P_extract rfl rfl rfl) ?_
      refine At.s (S_alloc (some 16) 16 (zs := [iV 0, iV 0, iV 0]) rfl ze78 rfl (fun b16 => ?_))
      refine At.s (S_storeA none (k := 16) (vs := [iV (rdC ((vsT key c n g (List.replicate k25 0#8)).take (k44 - 0))), iV (rdN ((vsT key c n g (List.replicate k25 0#8)).take (k44 - 0))), iV (rdG ((vsT key c n g (List.replicate k25 0#8)).take (k44 - 0)))]) rfl rfl rfl (by rw [sz78]; exact congrArg some LN) rfl (one_cons rfl (one_cons rfl (one_cons rfl one_nil))) NG rfl LN ?_)
      refine At.p (some 17) (P_assign rfl rfl) ?_
      refine At.nil ?_
      refine At.next ?_
      refine At.seq ?_
      refine At.seq ?_
      obtain ⟨⟨u1, u2⟩, ⟨u3, u4⟩, ⟨u5, u6⟩⟩ := op_bnd key (((vsT key c n g (List.replicate k25 0#8)).take (k44 - 0)))
      obtain ⟨⟨t1, t2⟩, ⟨t3, t4⟩, ⟨t5, t6⟩⟩ := rd_bnd (((vsT key c n g (List.replicate k25 0#8)).take (k44 - 0)))
      refine At.draws 14 [] [.q false [0, 1, 2, 3, 4, 5, 6, 7, 8, 9, 10, 11, 12, 13]] (by kernel_rfl) (by kernel_rfl) ?_
      refine At.wp (some 80) (P_move rfl rfl) ?_
      refine At.wp (some 81) (P_move rfl rfl) ?_
      refine At.wp (some 82) (P_cmp rfl rfl rfl rfl rfl rfl) ?_
      refine At.wp (some 83) (P_move rfl rfl) ?_
      refine At.wgyq (some 84) (t := 83) rfl (by first | rfl | (simp; done) | (simp only [hA2]; simp; done)) rfl rfl (Q_loadA (k := 10) rfl rfl Try.underlying78 rfl sz78 LN rfl) ?_
      refine At.wgyq (some 85) (t := 83) rfl (by first | rfl | (simp; done) | (simp only [hA2]; simp; done)) rfl rfl (Q_loadA (k := 13) rfl rfl Try.underlying75 rfl sz75 LN rfl) ?_
      refine At.wcVg (some 86) [] (tt := 83) rfl (by first | rfl | (simp; done) | (simp only [hA2]; simp; done)) rfl rfl (vs := [_]) rfl en44 rfl V0 (c_to (c := (opC key ((vsT key c n g (List.replicate k25 0#8)).take (k44 - 0)))) (n := (opN key ((vsT key c n g (List.replicate k25 0#8)).take (k44 - 0)))) (g := (opG key ((vsT key c n g (List.replicate k25 0#8)).take (k44 - 0)))) ) ?_
      refine At.wgy (some 87) (t := 83) rfl (by first | rfl | (simp; done) | (simp only [hA2]; simp; done)) rfl rfl (P_neq_flat (g := 9) (ls := [ROW.lit0 0 (.i .i64), ROW.lit0 0 (.i .i64), ROW.lit0 0 (.i .i64)] ++ []) (xs := [[iV (opC key ((vsT key c n g (List.replicate k25 0#8)).take (k44 - 0))), iV (opN key ((vsT key c n g (List.replicate k25 0#8)).take (k44 - 0))), iV (opG key ((vsT key c n g (List.replicate k25 0#8)).take (k44 - 0)))]].flatten) (ys := [[iV (opC key ((vsT key c n g (List.replicate k25 0#8)).take (k44 - 0))), iV (opN key ((vsT key c n g (List.replicate k25 0#8)).take (k44 - 0))), iV (opG key ((vsT key c n g (List.replicate k25 0#8)).take (k44 - 0)))]].flatten) (b := decide ((opC key ((vsT key c n g (List.replicate k25 0#8)).take (k44 - 0))) = (opC key ((vsT key c n g (List.replicate k25 0#8)).take (k44 - 0))) ∧ (opN key ((vsT key c n g (List.replicate k25 0#8)).take (k44 - 0))) = (opN key ((vsT key c n g (List.replicate k25 0#8)).take (k44 - 0))) ∧ (opG key ((vsT key c n g (List.replicate k25 0#8)).take (k44 - 0))) = (opG key ((vsT key c n g (List.replicate k25 0#8)).take (k44 - 0))) ∧ True)) (dec_iff (eqs_cons (iV_inj _ _) (eqs_cons (iV_inj _ _) (eqs_cons (iV_inj _ _) (eqs_end eqs_nil))))) rfl (by kernel_rfl) (by kernel_rfl) (by decide) (.inl ⟨_, Try.underlying78⟩) Try.eqGuardType78 rfl rfl (okfc (okf_i (by first | omega | (constructor <;> omega)) (okf_i (by first | omega | (constructor <;> omega)) (okf_i (by first | omega | (constructor <;> omega)) okf_n))) okf0) (okfc (okf_i (by first | omega | (constructor <;> omega)) (okf_i (by first | omega | (constructor <;> omega)) (okf_i (by first | omega | (constructor <;> omega)) okf_n))) okf0)) ?_
      refine At.wp (some 88) (P_pick_f rfl rfl (by first | rfl | (simp; done) | (simp only [hA2]; simp; done)) rfl) ?_
      refine At.wp (some 89) (P_move rfl rfl) ?_
      refine At.wgy (some 90) (t := 89) rfl (by first | rfl | (simp; done) | (simp only [hA2]; simp; done)) rfl rfl (P_move rfl rfl) ?_
      refine At.wgyq (some 91) (t := 89) rfl (by first | rfl | (simp; done) | (simp only [hA2]; simp; done)) rfl rfl (Q_strA (l := (opT key ((vsT key c n g (List.replicate k25 0#8)).take (k44 - 0)))) (n := ((opT key ((vsT key c n g (List.replicate k25 0#8)).take (k44 - 0))).length)) (k := 64) LN rfl Try.underlying22 Try.underlying5 Try.underlying9 rfl (fun h => g64a (by omega)) (fun _ => ⟨rfl, rfl, rfl⟩)) ?_
      refine At.wgy (some 92) (t := 89) rfl (by first | rfl | (simp; done) | (simp only [hA2]; simp; done)) rfl rfl (P_move rfl rfl) ?_
      refine At.wgyq (some 93) (t := 89) rfl (by first | rfl | (simp; done) | (simp only [hA2]; simp; done)) rfl rfl (Q_strA (l := (opT key ((vsT key c n g (List.replicate k25 0#8)).take (k44 - 0)))) (n := ((opT key ((vsT key c n g (List.replicate k25 0#8)).take (k44 - 0))).length)) (k := 71) LN rfl Try.underlying22 Try.underlying5 Try.underlying9 rfl (fun h => g71a (by omega)) (fun _ => ⟨rfl, rfl, rfl⟩)) ?_
      refine At.wqn ?_
      refine At.wt rfl ?_
      refine At.gy (t := 89) rfl (by first | rfl | (simp; done) | (simp only [hA2]; simp; done)) rfl rfl ?_
      refine At.p (some 94) (P_neq_str (a := (opT key ((vsT key c n g (List.replicate k25 0#8)).take (k44 - 0)))) (b := (opT key ((vsT key c n g (List.replicate k25 0#8)).take (k44 - 0)))) rfl rfl rfl) ?_
      refine At.p (some 95) (P_pick_f rfl rfl (by first | rfl | (simp; done) | (simp only [hA2]; simp; done)) rfl) ?_
      refine At.nil ?_
      refine At.next ?_
      refine At.cond rfl (fun h95 => (by simp at h95)) (fun h95 => ?_)
      have e95 : (opT key ((vsT key c n g (List.replicate k25 0#8)).take (k44 - 0))) = (opT key ((vsT key c n g (List.replicate k25 0#8)).take (k44 - 0))) := (by first | (simp; done) | simpa using h95)
      refine At.skip ?_
      refine At.next ?_
      refine At.seq ?_
      have hA := op_alt key (((vsT key c n g (List.replicate k25 0#8)).take (k44 - 0)))
      refine At.region ?_
      refine At.p (some 96) (P_move rfl rfl) ?_
      refine At.p (some 97) (P_move rfl rfl) ?_
      refine At.p (some 98) (P_cmp rfl rfl rfl rfl rfl rfl) ?_
      refine At.p (some 99) (P_move rfl rfl) ?_
      refine At.gsplit (t := 99) (want := false) rfl (fun g1 => ?_) (fun g1 => ?_)
      ·
        have eg1 : (rdE ((vsT key c n g (List.replicate k25 0#8)).take (k44 - 0))) ≠ (opE key ((vsT key c n g (List.replicate k25 0#8)).take (k44 - 0))) := beq_eq_false_iff_ne.1 g1
        refine At.gy (t := 99) rfl g1 rfl rfl ?_
        refine At.p (some 100) (P_move rfl rfl) ?_
        refine At.gy (t := 99) rfl g1 rfl rfl ?_
        refine At.p (some 101) (P_cmp rfl rfl rfl rfl rfl rfl) ?_
        refine At.gy (t := 99) rfl g1 rfl rfl ?_
        refine At.p (some 102) (P_move rfl rfl) ?_
        refine At.gy (t := 102) rfl (by rcases hA with h | h <;> simp_all) rfl rfl ?_
        refine At.p (some 103) (P_move rfl rfl) ?_
        refine At.gy (t := 102) rfl (by rcases hA with h | h <;> simp_all) rfl rfl ?_
        refine At.p (some 104) (P_cmp rfl rfl rfl rfl rfl rfl) ?_
        refine At.gy (t := 99) rfl g1 rfl rfl ?_
        refine At.p (some 105) (P_pick_t rfl rfl (by rcases hA with h | h <;> simp_all) rfl) ?_
        refine At.p (some 106) (P_pick_f rfl rfl g1 rfl) ?_
        refine At.p (some 107) (P_move rfl rfl) ?_
        refine At.gn (some 108) (t := 107) rfl (by rcases hA with h | h <;> simp_all) rfl rfl ?_
        refine At.gn (some 109) (t := 107) rfl (by rcases hA with h | h <;> simp_all) rfl rfl ?_
        refine At.gn (some 110) (t := 107) rfl (by rcases hA with h | h <;> simp_all) rfl rfl ?_
        refine At.gu (some 111) (t := 110) rfl rfl rfl ?_
        refine At.gu (some 112) (t := 110) rfl rfl rfl ?_
        refine At.gn (some 113) (t := 107) rfl (by rcases hA with h | h <;> simp_all) rfl rfl ?_
        refine At.gn (some 114) (t := 107) rfl (by rcases hA with h | h <;> simp_all) rfl rfl ?_
        refine At.gu (some 115) (t := 114) rfl rfl rfl ?_
        refine At.gu (some 116) (t := 114) rfl rfl rfl ?_
        refine At.gu (some 117) (t := 114) rfl rfl rfl ?_
        refine At.gn (some 118) (t := 107) rfl (by rcases hA with h | h <;> simp_all) rfl rfl ?_
        refine At.p (some 119) (P_pick_t rfl rfl (by rcases hA with h | h <;> simp_all) rfl) ?_
        refine At.p (some 6) (P_assign rfl rfl) ?_
        refine At.nil ?_
        refine At.next ?_
        refine At.ret ?_
        have hq0 : true = true := (by first | rfl | (rcases hA with h | h <;> simp_all))
        refine At.give (.inl rfl) [] (rows' := []) (vs := [_]) rfl ⟨rfl, trivial⟩ rfl (by simp) (by simp) ⟨(by first | (rw [hq0]; try rfl; done) | (rw [← hq0]; try rfl; done) | (simp only [hq0]; try rfl; done) | (simp only [← hq0]; try rfl; done) | rfl), (by first | (rw [hq0]; try rfl; done) | (rw [← hq0]; try rfl; done) | (simp only [hq0]; try rfl; done) | (simp only [← hq0]; try rfl; done) | rfl)⟩
      ·
        have eg1 : (rdE ((vsT key c n g (List.replicate k25 0#8)).take (k44 - 0))) = (opE key ((vsT key c n g (List.replicate k25 0#8)).take (k44 - 0))) := eq_of_beq g1
        refine At.gn (some 100) (t := 99) rfl g1 rfl rfl ?_
        refine At.gn (some 101) (t := 99) rfl g1 rfl rfl ?_
        refine At.gn (some 102) (t := 99) rfl g1 rfl rfl ?_
        refine At.gu (some 103) (t := 102) rfl rfl rfl ?_
        refine At.gu (some 104) (t := 102) rfl rfl rfl ?_
        refine At.gn (some 105) (t := 99) rfl g1 rfl rfl ?_
        refine At.p (some 106) (P_pick_t rfl rfl g1 rfl) ?_
        refine At.p (some 107) (P_move rfl rfl) ?_
        refine At.gn (some 108) (t := 107) rfl rfl rfl rfl ?_
        refine At.gn (some 109) (t := 107) rfl rfl rfl rfl ?_
        refine At.gn (some 110) (t := 107) rfl rfl rfl rfl ?_
        refine At.gu (some 111) (t := 110) rfl rfl rfl ?_
        refine At.gu (some 112) (t := 110) rfl rfl rfl ?_
        refine At.gn (some 113) (t := 107) rfl rfl rfl rfl ?_
        refine At.gn (some 114) (t := 107) rfl rfl rfl rfl ?_
        refine At.gu (some 115) (t := 114) rfl rfl rfl ?_
        refine At.gu (some 116) (t := 114) rfl rfl rfl ?_
        refine At.gu (some 117) (t := 114) rfl rfl rfl ?_
        refine At.gn (some 118) (t := 107) rfl rfl rfl rfl ?_
        refine At.p (some 119) (P_pick_t rfl rfl rfl rfl) ?_
        refine At.p (some 6) (P_assign rfl rfl) ?_
        refine At.nil ?_
        refine At.next ?_
        refine At.ret ?_
        have hq0 : true = true := (by first | rfl | (rcases hA with h | h <;> simp_all))
        refine At.give (.inl rfl) [] (rows' := []) (vs := [_]) rfl ⟨rfl, trivial⟩ rfl (by simp) (by simp) ⟨(by first | (rw [hq0]; try rfl; done) | (rw [← hq0]; try rfl; done) | (simp only [hq0]; try rfl; done) | (simp only [← hq0]; try rfl; done) | rfl), (by first | (rw [hq0]; try rfl; done) | (rw [← hq0]; try rfl; done) | (simp only [hq0]; try rfl; done) | (simp only [← hq0]; try rfl; done) | rfl)⟩
    · -- cond 48 f
      have e48 : (d1.tmod 5) ≠ 4 := beq_eq_false_iff_ne.1 h48
      refine At.draws 7 [] [.q false [0, 1, 2, 3, 4, 5, 6]] (by kernel_rfl) (by kernel_rfl) ?_
      refine At.wp (some 52) (P_move rfl rfl) ?_
      refine At.wp (some 53) (P_move rfl rfl) ?_
      refine At.wp (some 54) (P_indexAddr_slz (b := b27) (j := k44) rfl Try.underlying22 sz5 rfl ((fun h => g27a (by omega)) OG) rfl RO OG) ?_
      refine At.wq (some 55) (Q_loadM (k := 27) (f := u8V) (l := (vsT key c n g (List.replicate k25 0#8))) (0#8) rfl rfl Try.underlying5 rfl rfl OG) ?_
      refine At.wp (some 56) (P_indexAddr_arr1 (j := 1) rfl Try.underlying87 sz3 rfl rfl rfl (by decide)) ?_
      refine At.wq (some 57) (Q_loadO (k := 5) rfl rfl Try.underlying3 rfl rfl rfl) ?_
      refine At.wp (some 58) (P_conv_iw UK.u8 rfl Try.underlying3 Try.underlying5 rfl) ?_
      refine At.wqn ?_
      refine At.wt rfl ?_
      refine At.p (some 59) (P_xor_w UK.u8 rfl rfl rfl) ?_
      refine At.p (some 60) (P_indexAddr_slz (b := b27) (j := k44) rfl Try.underlying22 sz5 rfl ((fun h => g27a (by omega)) OG) rfl RO OG) ?_
      refine At.s (S_storeM none (f := u8V) (l := (vsT key c n g (List.replicate k25 0#8))) (u := (((vsT key c n g (List.replicate k25 0#8)).getD k44 0#8) ^^^ (BitVec.ofInt 8 d1))) (k := 27) rfl rfl rfl sz5 rfl rfl rfl OG ?_)
      refine At.nil ?_
      refine At.next ?_
      refine At.seq ?_
      refine At.region ?_
      refine At.q (some 62) (Q_loadA (k := 3) rfl rfl Try.underlying23 rfl sz23 LN rfl) ?_
      refine At.p (some 63) (P_move rfl rfl) ?_
      refine At.s (S_callV (some 64) [(27, _)] [64] (vs := [_, _]) rfl en47 rfl (VN (by simp) rfl View.all V0) (by simp) (c_VOpen (key := key) (b := ((vsT key c n g (List.replicate k25 0#8)).set k44 (((vsT key c n g (List.replicate k25 0#8)).getD k44 0#8) ^^^ (BitVec.ofInt 8 d1)))) (nb := ((vsT key c n g (List.replicate k25 0#8)).length)) (Ab := A27) (cb := c27) (bb := b27) (qb := 0) LN LN (fun h => g27a (by omega)) OG OG) (by rintro _ _ ⟨A64, b64, c64, g64a, g64b, rfl, rfl⟩; rfl) ?_)
      rintro _ _ ⟨A64, b64, c64, g64a, g64b, rfl, rfl⟩
      refine At.p (some 61) (P_move rfl rfl) ?_
      refine At.p (some 65) (P_extract rfl rfl rfl) ?_
      refine At.p (some 66) (P_extract rfl rfl rfl) ?_
      refine At.p (some 67) (P_extract rfl rfl rfl) ?_
      refine At.s (S_alloc (some 10) 10 (zs := [iV 0, iV 0, iV 0]) rfl ze78 rfl (fun b10 => ?_))
      refine At.s (S_storeA none (k := 10) (vs := [iV (opC key ((vsT key c n g (List.replicate k25 0#8)).set k44 (((vsT key c n g (List.replicate k25 0#8)).getD k44 0#8) ^^^ (BitVec.ofInt 8 d1)))), iV (opN key ((vsT key c n g (List.replicate k25 0#8)).set k44 (((vsT key c n g (List.replicate k25 0#8)).getD k44 0#8) ^^^ (BitVec.ofInt 8 d1)))), iV (opG key ((vsT key c n g (List.replicate k25 0#8)).set k44 (((vsT key c n g (List.replicate k25 0#8)).getD k44 0#8) ^^^ (BitVec.ofInt 8 d1))))]) rfl rfl rfl (by rw [sz78]; exact congrArg some LN) rfl (one_cons rfl (one_cons rfl (one_cons rfl one_nil))) NG rfl LN ?_)
      refine At.p (some 11) (P_assign rfl rfl) ?_
      refine At.p (some 12) (P_assign rfl rfl) ?_
      refine At.nil ?_
      refine At.next ?_
      refine At.seq ?_
      refine At.region ?_
      refine At.q (some 69) (Q_loadA (k := 3) rfl rfl Try.underlying23 rfl sz23 LN rfl) ?_
      refine At.p (some 70) (P_move rfl rfl) ?_
      refine At.s (S_callV (some 71) [(27, _)] [71] (vs := [_, _]) rfl en49 rfl (VN (by simp) rfl View.all V0) (by simp) (r_VOpen (key := key) (b := ((vsT key c n g (List.replicate k25 0#8)).set k44 (((vsT key c n g (List.replicate k25 0#8)).getD k44 0#8) ^^^ (BitVec.ofInt 8 d1)))) (nb := ((vsT key c n g (List.replicate k25 0#8)).length)) (Ab := A27) (cb := c27) (bb := b27) (qb := 0) LN LN (fun h => g27a (by omega)) OG OG) (by rintro _ _ ⟨A71, b71, c71, g71a, g71b, rfl, rfl⟩; rfl) ?_)
      rintro _ _ ⟨A71, b71, c71, g71a, g71b, rfl, rfl⟩
      refine At.p (some 68) (P_move rfl rfl) ?_
      refine At.p (some 72) (P_extract rfl rfl rfl) ?_
      refine At.p (some 73) (P_extract rfl rfl rfl) ?_
      refine At.p (some 74) (P_extract rfl rfl rfl) ?_
      refine At.s (S_alloc (some 13) 13 (zs := [iV 0, iV 0, iV 0]) rfl ze75 rfl (fun b13 => ?_))
      refine At.s (S_storeA none (k := 13) (vs := [iV (opC key ((vsT key c n g (List.replicate k25 0#8)).set k44 (((vsT key c n g (List.replicate k25 0#8)).getD k44 0#8) ^^^ (BitVec.ofInt 8 d1)))), iV (opN key ((vsT key c n g (List.replicate k25 0#8)).set k44 (((vsT key c n g (List.replicate k25 0#8)).getD k44 0#8) ^^^ (BitVec.ofInt 8 d1)))), iV (opG key ((vsT key c n g (List.replicate k25 0#8)).set k44 (((vsT key c n g (List.replicate k25 0#8)).getD k44 0#8) ^^^ (BitVec.ofInt 8 d1))))]) rfl rfl rfl (by rw [sz75]; exact congrArg some LN) rfl (one_cons rfl (one_cons rfl (one_cons rfl one_nil))) NG rfl LN ?_)
      refine At.p (some 14) (P_assign rfl rfl) ?_
      refine At.p (some 15) (P_assign rfl rfl) ?_
      refine At.nil ?_
      refine At.next ?_
      refine At.seq ?_
      refine At.region ?_
      refine At.p (some 76) (P_move rfl rfl) ?_
      refine At.s (S_callV (some 77) [(27, _)] [] (vs := [_]) rfl en48 rfl (VN (by simp) rfl View.all V0) (by simp) (c_Read (b := ((vsT key c n g (List.replicate k25 0#8)).set k44 (((vsT key c n g (List.replicate k25 0#8)).getD k44 0#8) ^^^ (BitVec.ofInt 8 d1)))) (nb := ((vsT key c n g (List.replicate k25 0#8)).length)) (Ab := A27) (cb := c27) (bb := b27) (qb := 0) LN (fun h => g27a (by omega)) OG) (by rintro _ _ ⟨rfl, rfl⟩; rfl) ?_)
      rintro _ _ ⟨rfl, rfl⟩
      refine At.p (some 75) (P_move rfl rfl) ?_
      refine At.p (some 78) (P_extract rfl rfl rfl) ?_
      refine At.p (some 79) (P_extract rfl rfl rfl) ?_
      refine At.s (S_alloc (some 16) 16 (zs := [iV 0, iV 0, iV 0]) rfl ze78 rfl (fun b16 => ?_))
      refine At.s (S_storeA none (k := 16) (vs := [iV (rdC ((vsT key c n g (List.replicate k25 0#8)).set k44 (((vsT key c n g (List.replicate k25 0#8)).getD k44 0#8) ^^^ (BitVec.ofInt 8 d1)))), iV (rdN ((vsT key c n g (List.replicate k25 0#8)).set k44 (((vsT key c n g (List.replicate k25 0#8)).getD k44 0#8) ^^^ (BitVec.ofInt 8 d1)))), iV (rdG ((vsT key c n g (List.replicate k25 0#8)).set k44 (((vsT key c n g (List.replicate k25 0#8)).getD k44 0#8) ^^^ (BitVec.ofInt 8 d1))))]) rfl rfl rfl (by rw [sz78]; exact congrArg some LN) rfl (one_cons rfl (one_cons rfl (one_cons rfl one_nil))) NG rfl LN ?_)
      refine At.p (some 17) (P_assign rfl rfl) ?_
      refine At.nil ?_
      refine At.next ?_
      refine At.seq ?_
      refine At.seq ?_
      obtain ⟨⟨u1, u2⟩, ⟨u3, u4⟩, ⟨u5, u6⟩⟩ := op_bnd key (((vsT key c n g (List.replicate k25 0#8)).set k44 (((vsT key c n g (List.replicate k25 0#8)).getD k44 0#8) ^^^ (BitVec.ofInt 8 d1))))
      obtain ⟨⟨t1, t2⟩, ⟨t3, t4⟩, ⟨t5, t6⟩⟩ := rd_bnd (((vsT key c n g (List.replicate k25 0#8)).set k44 (((vsT key c n g (List.replicate k25 0#8)).getD k44 0#8) ^^^ (BitVec.ofInt 8 d1))))
      refine At.draws 14 [] [.q false [0, 1, 2, 3, 4, 5, 6, 7, 8, 9, 10, 11, 12, 13]] (by kernel_rfl) (by kernel_rfl) ?_
      refine At.wp (some 80) (P_move rfl rfl) ?_
      refine At.wp (some 81) (P_move rfl rfl) ?_
      refine At.wp (some 82) (P_cmp rfl rfl rfl rfl rfl rfl) ?_
      refine At.wp (some 83) (P_move rfl rfl) ?_
      refine At.wgyq (some 84) (t := 83) rfl (by first | rfl | (simp; done) | (simp only [hA2]; simp; done)) rfl rfl (Q_loadA (k := 10) rfl rfl Try.underlying78 rfl sz78 LN rfl) ?_
      refine At.wgyq (some 85) (t := 83) rfl (by first | rfl | (simp; done) | (simp only [hA2]; simp; done)) rfl rfl (Q_loadA (k := 13) rfl rfl Try.underlying75 rfl sz75 LN rfl) ?_
      refine At.wcVg (some 86) [] (tt := 83) rfl (by first | rfl | (simp; done) | (simp only [hA2]; simp; done)) rfl rfl (vs := [_]) rfl en44 rfl V0 (c_to (c := (opC key ((vsT key c n g (List.replicate k25 0#8)).set k44 (((vsT key c n g (List.replicate k25 0#8)).getD k44 0#8) ^^^ (BitVec.ofInt 8 d1))))) (n := (opN key ((vsT key c n g (List.replicate k25 0#8)).set k44 (((vsT key c n g (List.replicate k25 0#8)).getD k44 0#8) ^^^ (BitVec.ofInt 8 d1))))) (g := (opG key ((vsT key c n g (List.replicate k25 0#8)).set k44 (((vsT key c n g (List.replicate k25 0#8)).getD k44 0#8) ^^^ (BitVec.ofInt 8 d1))))) ) ?_
      refine At.wgy (some 87) (t := 83) rfl (by first | rfl | (simp; done) | (simp only [hA2]; simp; done)) rfl rfl (P_neq_flat (g := 9) (ls := [ROW.lit0 0 (.i .i64), ROW.lit0 0 (.i .i64), ROW.lit0 0 (.i .i64)] ++ []) (xs := [[iV (opC key ((vsT key c n g (List.replicate k25 0#8)).set k44 (((vsT key c n g (List.replicate k25 0#8)).getD k44 0#8) ^^^ (BitVec.ofInt 8 d1)))), iV (opN key ((vsT key c n g (List.replicate k25 0#8)).set k44 (((vsT key c n g (List.replicate k25 0#8)).getD k44 0#8) ^^^ (BitVec.ofInt 8 d1)))), iV (opG key ((vsT key c n g (List.replicate k25 0#8)).set k44 (((vsT key c n g (List.replicate k25 0#8)).getD k44 0#8) ^^^ (BitVec.ofInt 8 d1))))]].flatten) (ys := [[iV (opC key ((vsT key c n g (List.replicate k25 0#8)).set k44 (((vsT key c n g (List.replicate k25 0#8)).getD k44 0#8) ^^^ (BitVec.ofInt 8 d1)))), iV (opN key ((vsT key c n g (List.replicate k25 0#8)).set k44 (((vsT key c n g (List.replicate k25 0#8)).getD k44 0#8) ^^^ (BitVec.ofInt 8 d1)))), iV (opG key ((vsT key c n g (List.replicate k25 0#8)).set k44 (((vsT key c n g (List.replicate k25 0#8)).getD k44 0#8) ^^^ (BitVec.ofInt 8 d1))))]].flatten) (b := decide ((opC key ((vsT key c n g (List.replicate k25 0#8)).set k44 (((vsT key c n g (List.replicate k25 0#8)).getD k44 0#8) ^^^ (BitVec.ofInt 8 d1)))) = (opC key ((vsT key c n g (List.replicate k25 0#8)).set k44 (((vsT key c n g (List.replicate k25 0#8)).getD k44 0#8) ^^^ (BitVec.ofInt 8 d1)))) ∧ (opN key ((vsT key c n g (List.replicate k25 0#8)).set k44 (((vsT key c n g (List.replicate k25 0#8)).getD k44 0#8) ^^^ (BitVec.ofInt 8 d1)))) = (opN key ((vsT key c n g (List.replicate k25 0#8)).set k44 (((vsT key c n g (List.replicate k25 0#8)).getD k44 0#8) ^^^ (BitVec.ofInt 8 d1)))) ∧ (opG key ((vsT key c n g (List.replicate k25 0#8)).set k44 (((vsT key c n g (List.replicate k25 0#8)).getD k44 0#8) ^^^ (BitVec.ofInt 8 d1)))) = (opG key ((vsT key c n g (List.replicate k25 0#8)).set k44 (((vsT key c n g (List.replicate k25 0#8)).getD k44 0#8) ^^^ (BitVec.ofInt 8 d1)))) ∧ True)) (dec_iff (eqs_cons (iV_inj _ _) (eqs_cons (iV_inj _ _) (eqs_cons (iV_inj _ _) (eqs_end eqs_nil))))) rfl (by kernel_rfl) (by kernel_rfl) (by decide) (.inl ⟨_, Try.underlying78⟩) Try.eqGuardType78 rfl rfl (okfc (okf_i (by first | omega | (constructor <;> omega)) (okf_i (by first | omega | (constructor <;> omega)) (okf_i (by first | omega | (constructor <;> omega)) okf_n))) okf0) (okfc (okf_i (by first | omega | (constructor <;> omega)) (okf_i (by first | omega | (constructor <;> omega)) (okf_i (by first | omega | (constructor <;> omega)) okf_n))) okf0)) ?_
      refine At.wp (some 88) (P_pick_f rfl rfl (by first | rfl | (simp; done) | (simp only [hA2]; simp; done)) rfl) ?_
      refine At.wp (some 89) (P_move rfl rfl) ?_
      refine At.wgy (some 90) (t := 89) rfl (by first | rfl | (simp; done) | (simp only [hA2]; simp; done)) rfl rfl (P_move rfl rfl) ?_
      refine At.wgyq (some 91) (t := 89) rfl (by first | rfl | (simp; done) | (simp only [hA2]; simp; done)) rfl rfl (Q_strA (l := (opT key ((vsT key c n g (List.replicate k25 0#8)).set k44 (((vsT key c n g (List.replicate k25 0#8)).getD k44 0#8) ^^^ (BitVec.ofInt 8 d1))))) (n := ((opT key ((vsT key c n g (List.replicate k25 0#8)).set k44 (((vsT key c n g (List.replicate k25 0#8)).getD k44 0#8) ^^^ (BitVec.ofInt 8 d1)))).length)) (k := 64) LN rfl Try.underlying22 Try.underlying5 Try.underlying9 rfl (fun h => g64a (by omega)) (fun _ => ⟨rfl, rfl, rfl⟩)) ?_
      refine At.wgy (some 92) (t := 89) rfl (by first | rfl | (simp; done) | (simp only [hA2]; simp; done)) rfl rfl (P_move rfl rfl) ?_
      refine At.wgyq (some 93) (t := 89) rfl (by first | rfl | (simp; done) | (simp only [hA2]; simp; done)) rfl rfl (Q_strA (l := (opT key ((vsT key c n g (List.replicate k25 0#8)).set k44 (((vsT key c n g (List.replicate k25 0#8)).getD k44 0#8) ^^^ (BitVec.ofInt 8 d1))))) (n := ((opT key ((vsT key c n g (List.replicate k25 0#8)).set k44 (((vsT key c n g (List.replicate k25 0#8)).getD k44 0#8) ^^^ (BitVec.ofInt 8 d1)))).length)) (k := 71) LN rfl Try.underlying22 Try.underlying5 Try.underlying9 rfl (fun h => g71a (by omega)) (fun _ => ⟨rfl, rfl, rfl⟩)) ?_
      refine At.wqn ?_
      refine At.wt rfl ?_
      refine At.gy (t := 89) rfl (by first | rfl | (simp; done) | (simp only [hA2]; simp; done)) rfl rfl ?_
      refine At.p (some 94) (P_neq_str (a := (opT key ((vsT key c n g (List.replicate k25 0#8)).set k44 (((vsT key c n g (List.replicate k25 0#8)).getD k44 0#8) ^^^ (BitVec.ofInt 8 d1))))) (b := (opT key ((vsT key c n g (List.replicate k25 0#8)).set k44 (((vsT key c n g (List.replicate k25 0#8)).getD k44 0#8) ^^^ (BitVec.ofInt 8 d1))))) rfl rfl rfl) ?_
      refine At.p (some 95) (P_pick_f rfl rfl (by first | rfl | (simp; done) | (simp only [hA2]; simp; done)) rfl) ?_
      refine At.nil ?_
      refine At.next ?_
      refine At.cond rfl (fun h95 => (by simp at h95)) (fun h95 => ?_)
      have e95 : (opT key ((vsT key c n g (List.replicate k25 0#8)).set k44 (((vsT key c n g (List.replicate k25 0#8)).getD k44 0#8) ^^^ (BitVec.ofInt 8 d1)))) = (opT key ((vsT key c n g (List.replicate k25 0#8)).set k44 (((vsT key c n g (List.replicate k25 0#8)).getD k44 0#8) ^^^ (BitVec.ofInt 8 d1)))) := (by first | (simp; done) | simpa using h95)
      refine At.skip ?_
      refine At.next ?_
      refine At.seq ?_
      have hA := op_alt key (((vsT key c n g (List.replicate k25 0#8)).set k44 (((vsT key c n g (List.replicate k25 0#8)).getD k44 0#8) ^^^ (BitVec.ofInt 8 d1))))
      refine At.region ?_
      refine At.p (some 96) (P_move rfl rfl) ?_
      refine At.p (some 97) (P_move rfl rfl) ?_
      refine At.p (some 98) (P_cmp rfl rfl rfl rfl rfl rfl) ?_
      refine At.p (some 99) (P_move rfl rfl) ?_
      refine At.gsplit (t := 99) (want := false) rfl (fun g2 => ?_) (fun g2 => ?_)
      ·
        have eg2 : (rdE ((vsT key c n g (List.replicate k25 0#8)).set k44 (((vsT key c n g (List.replicate k25 0#8)).getD k44 0#8) ^^^ (BitVec.ofInt 8 d1)))) ≠ (opE key ((vsT key c n g (List.replicate k25 0#8)).set k44 (((vsT key c n g (List.replicate k25 0#8)).getD k44 0#8) ^^^ (BitVec.ofInt 8 d1)))) := beq_eq_false_iff_ne.1 g2
        refine At.gy (t := 99) rfl g2 rfl rfl ?_
        refine At.p (some 100) (P_move rfl rfl) ?_
        refine At.gy (t := 99) rfl g2 rfl rfl ?_
        refine At.p (some 101) (P_cmp rfl rfl rfl rfl rfl rfl) ?_
        refine At.gy (t := 99) rfl g2 rfl rfl ?_
        refine At.p (some 102) (P_move rfl rfl) ?_
        refine At.gy (t := 102) rfl (by rcases hA with h | h <;> simp_all) rfl rfl ?_
        refine At.p (some 103) (P_move rfl rfl) ?_
        refine At.gy (t := 102) rfl (by rcases hA with h | h <;> simp_all) rfl rfl ?_
        refine At.p (some 104) (P_cmp rfl rfl rfl rfl rfl rfl) ?_
        refine At.gy (t := 99) rfl g2 rfl rfl ?_
        refine At.p (some 105) (P_pick_t rfl rfl (by rcases hA with h | h <;> simp_all) rfl) ?_
        refine At.p (some 106) (P_pick_f rfl rfl g2 rfl) ?_
        refine At.p (some 107) (P_move rfl rfl) ?_
        refine At.gn (some 108) (t := 107) rfl (by rcases hA with h | h <;> simp_all) rfl rfl ?_
        refine At.gn (some 109) (t := 107) rfl (by rcases hA with h | h <;> simp_all) rfl rfl ?_
        refine At.gn (some 110) (t := 107) rfl (by rcases hA with h | h <;> simp_all) rfl rfl ?_
        refine At.gu (some 111) (t := 110) rfl rfl rfl ?_
        refine At.gu (some 112) (t := 110) rfl rfl rfl ?_
        refine At.gn (some 113) (t := 107) rfl (by rcases hA with h | h <;> simp_all) rfl rfl ?_
        refine At.gn (some 114) (t := 107) rfl (by rcases hA with h | h <;> simp_all) rfl rfl ?_
        refine At.gu (some 115) (t := 114) rfl rfl rfl ?_
        refine At.gu (some 116) (t := 114) rfl rfl rfl ?_
        refine At.gu (some 117) (t := 114) rfl rfl rfl ?_
        refine At.gn (some 118) (t := 107) rfl (by rcases hA with h | h <;> simp_all) rfl rfl ?_
        refine At.p (some 119) (P_pick_t rfl rfl (by rcases hA with h | h <;> simp_all) rfl) ?_
        refine At.p (some 6) (P_assign rfl rfl) ?_
        refine At.nil ?_
        refine At.next ?_
        refine At.ret ?_
        have hq0 : true = true := (by first | rfl | (rcases hA with h | h <;> simp_all))
        refine At.give (.inl rfl) [] (rows' := []) (vs := [_]) rfl ⟨rfl, trivial⟩ rfl (by simp) (by simp) ⟨(by first | (rw [hq0]; try rfl; done) | (rw [← hq0]; try rfl; done) | (simp only [hq0]; try rfl; done) | (simp only [← hq0]; try rfl; done) | rfl), (by first | (rw [hq0]; try rfl; done) | (rw [← hq0]; try rfl; done) | (simp only [hq0]; try rfl; done) | (simp only [← hq0]; try rfl; done) | rfl)⟩
      ·
        have eg2 : (rdE ((vsT key c n g (List.replicate k25 0#8)).set k44 (((vsT key c n g (List.replicate k25 0#8)).getD k44 0#8) ^^^ (BitVec.ofInt 8 d1)))) = (opE key ((vsT key c n g (List.replicate k25 0#8)).set k44 (((vsT key c n g (List.replicate k25 0#8)).getD k44 0#8) ^^^ (BitVec.ofInt 8 d1)))) := eq_of_beq g2
        refine At.gn (some 100) (t := 99) rfl g2 rfl rfl ?_
        refine At.gn (some 101) (t := 99) rfl g2 rfl rfl ?_
        refine At.gn (some 102) (t := 99) rfl g2 rfl rfl ?_
        refine At.gu (some 103) (t := 102) rfl rfl rfl ?_
        refine At.gu (some 104) (t := 102) rfl rfl rfl ?_
        refine At.gn (some 105) (t := 99) rfl g2 rfl rfl ?_
        refine At.p (some 106) (P_pick_t rfl rfl g2 rfl) ?_
        refine At.p (some 107) (P_move rfl rfl) ?_
        refine At.gn (some 108) (t := 107) rfl rfl rfl rfl ?_
        refine At.gn (some 109) (t := 107) rfl rfl rfl rfl ?_
        refine At.gn (some 110) (t := 107) rfl rfl rfl rfl ?_
        refine At.gu (some 111) (t := 110) rfl rfl rfl ?_
        refine At.gu (some 112) (t := 110) rfl rfl rfl ?_
        refine At.gn (some 113) (t := 107) rfl rfl rfl rfl ?_
        refine At.gn (some 114) (t := 107) rfl rfl rfl rfl ?_
        refine At.gu (some 115) (t := 114) rfl rfl rfl ?_
        refine At.gu (some 116) (t := 114) rfl rfl rfl ?_
        refine At.gu (some 117) (t := 114) rfl rfl rfl ?_
        refine At.gn (some 118) (t := 107) rfl rfl rfl rfl ?_
        refine At.p (some 119) (P_pick_t rfl rfl rfl rfl) ?_
        refine At.p (some 6) (P_assign rfl rfl) ?_
        refine At.nil ?_
        refine At.next ?_
        refine At.ret ?_
        have hq0 : true = true := (by first | rfl | (rcases hA with h | h <;> simp_all))
        refine At.give (.inl rfl) [] (rows' := []) (vs := [_]) rfl ⟨rfl, trivial⟩ rfl (by simp) (by simp) ⟨(by first | (rw [hq0]; try rfl; done) | (rw [← hq0]; try rfl; done) | (simp only [hq0]; try rfl; done) | (simp only [← hq0]; try rfl; done) | rfl), (by first | (rw [hq0]; try rfl; done) | (rw [← hq0]; try rfl; done) | (simp only [hq0]; try rfl; done) | (simp only [← hq0]; try rfl; done) | rfl)⟩

set_option maxHeartbeats 2000000 in
theorem l_Apart {key : List (BitVec 8)} {a : Int} {b : Int} (hkey : key.length = 32) :
    Con Try.prog 12 [aggK key, iV a, iV b] [] (fun v rs => v = .bool true ∧ rs = []) := by
  refine Con.enter Try.func12 Try.ntmps12 (Nat.le_of_ble_eq_true rfl) rfl fun w => ?_
  refine At.seq ?_
  refine At.region ?_
  refine At.s (S_box (some 3) 3 (zs := (key).map u8V) rfl rfl rfl (fun b3 => ?_))
  refine At.p (some 6) (P_assign rfl rfl) ?_
  refine At.nil ?_
  refine At.next ?_
  refine At.seq ?_
  refine At.region ?_
  refine At.p (some 21) (P_move rfl rfl) ?_
  refine At.p (some 22) (P_conv_iw UK.u64 rfl Try.underlying3 Try.underlying49 rfl) ?_
  refine At.p (some 23) (P_rem_w UK.u64 (b := 1000000#64) rfl rfl rfl (by decide)) ?_
  obtain ⟨k24, hk24, hek24, hdk24⟩ := umod_c ((BitVec.ofInt 64 a)) 1000000#64 (by decide) (by decide)
  have hk24 : k24 < 1000000 := hk24
  refine At.p (some 24) (P_conv_WiE hek24 rfl Try.underlying49 Try.underlying3 rfl) ?_
  refine At.p (some 25) (P_move rfl rfl) ?_
  refine At.p (some 26) (P_conv_iw UK.u64 rfl Try.underlying3 Try.underlying49 rfl) ?_
  refine At.p (some 27) (P_rem_w UK.u64 (b := 1000000#64) rfl rfl rfl (by decide)) ?_
  obtain ⟨k28, hk28, hek28, hdk28⟩ := umod_c ((BitVec.ofInt 64 b)) 1000000#64 (by decide) (by decide)
  have hk28 : k28 < 1000000 := hk28
  refine At.p (some 28) (P_conv_WiE hek28 rfl Try.underlying49 Try.underlying3 rfl) ?_
  refine At.p (some 7) (P_assign rfl rfl) ?_
  refine At.p (some 8) (P_assign rfl rfl) ?_
  refine At.nil ?_
  refine At.next ?_
  refine At.seq ?_
  refine At.region ?_
  refine At.s (S_buildSliceV (some 29) 29 ((snap).map u8V) rfl Try.underlying22 sz5 ze5 rfl rfl (by decide) (by decide) rfl ⟨rfl, rfl, rfl, rfl, rfl, rfl, rfl, rfl⟩ (fun b29 => ?_))
  refine At.s (S_convB (some 30) (k := 29) rfl Try.underlying22 Try.underlying5 rfl rfl (by simp) ?_)
  refine At.p (some 9) (P_assign rfl rfl) ?_
  refine At.nil ?_
  refine At.next ?_
  refine At.seq ?_
  have hk24b : k24 < 1000000 := hk24
  have hk28b : k28 < 1000000 := hk28
  have hsl : snap.length = 8 := rfl
  have q1 := vs_snap key k24 hk24b
  have q2 := vs_snap key k28 hk28b
  obtain ⟨y0, y1, y2, y3, y4, y5⟩ := q1
  obtain ⟨w0, w1, w2, w3, w4, w5⟩ := q2
  refine At.region ?_
  refine At.q (some 32) (Q_loadA (k := 3) rfl rfl Try.underlying23 rfl sz23 LN rfl) ?_
  refine At.p (some 33) (P_move rfl rfl) ?_
  refine At.p (some 34) (P_build_struct (parts := _) (vs := [(0, _), (1, _), (2, _)]) rfl Try.underlying78 ze78 pl78 rfl rfl) ?_
  refine At.p (some 35) (P_move rfl rfl) ?_
  refine At.s (S_callV (some 36) [(29, _)] [36] (vs := [_, _, _]) rfl en43 rfl (VN (by simp) rfl View.all V0) (by simp) (c_VSeal (key := key) (c := (k24 : Int)) (n := 1) (g := 1) (b := snap) (nb := 8) (Ab := (some ⟨b29, 0, none⟩)) (cb := 8) (bb := b29) (qb := 0) LN LN (fun _ => rfl)) (by rintro _ _ ⟨A36, b36, c36, g36a, g36b, rfl, rfl⟩; rfl) ?_)
  rintro _ _ ⟨A36, b36, c36, g36a, g36b, rfl, rfl⟩
  refine At.p (some 31) (P_move rfl rfl) ?_
  refine At.p (some 37) (P_extract rfl rfl rfl) ?_
  refine At.p (some 38) (P_extract rfl rfl rfl) ?_
  refine At.p (some 10) (P_assign rfl rfl) ?_
  refine At.p (some 11) (P_assign rfl rfl) ?_
  refine At.nil ?_
  refine At.next ?_
  refine At.seq ?_
  refine At.region ?_
  refine At.q (some 40) (Q_loadA (k := 3) rfl rfl Try.underlying23 rfl sz23 LN rfl) ?_
  refine At.p (some 41) (P_move rfl rfl) ?_
  refine At.p (some 42) (P_build_struct (parts := _) (vs := [(0, _), (1, _), (2, _)]) rfl Try.underlying78 ze78 pl78 rfl rfl) ?_
  refine At.p (some 43) (P_move rfl rfl) ?_
  refine At.s (S_callV (some 44) [(29, _)] [44] (vs := [_, _, _]) rfl en43 rfl (VN (by simp) rfl View.all V0) (by simp) (c_VSeal (key := key) (c := (k28 : Int)) (n := 1) (g := 1) (b := snap) (nb := 8) (Ab := (some ⟨b29, 0, none⟩)) (cb := 8) (bb := b29) (qb := 0) LN LN (fun _ => rfl)) (by rintro _ _ ⟨A44, b44, c44, g44a, g44b, rfl, rfl⟩; rfl) ?_)
  rintro _ _ ⟨A44, b44, c44, g44a, g44b, rfl, rfl⟩
  refine At.p (some 39) (P_move rfl rfl) ?_
  refine At.p (some 45) (P_extract rfl rfl rfl) ?_
  refine At.p (some 46) (P_extract rfl rfl rfl) ?_
  refine At.p (some 12) (P_assign rfl rfl) ?_
  refine At.p (some 13) (P_assign rfl rfl) ?_
  refine At.nil ?_
  refine At.next ?_
  refine At.seq ?_
  refine At.seq ?_
  refine At.region ?_
  refine At.s (S_callV (some 47) [] [] (vs := []) rfl en46 rfl V0 (by simp) (c_keeps  ) (by rintro _ _ ⟨rfl, rfl⟩; rfl) ?_)
  rintro _ _ ⟨rfl, rfl⟩
  refine At.p (some 48) (P_not rfl rfl) ?_
  refine At.p (some 49) (P_move rfl rfl) ?_
  refine At.gy (t := 49) rfl (by first | rfl | (simp; done)) rfl rfl ?_
  refine At.p (some 50) (P_move rfl rfl) ?_
  refine At.gy (t := 49) rfl (by first | rfl | (simp; done)) rfl rfl ?_
  refine At.p (some 51) (P_cmp rfl rfl rfl rfl rfl rfl) ?_
  refine At.p (some 52) (P_pick_f rfl rfl (by first | rfl | (simp; done)) rfl) ?_
  refine At.p (some 53) (P_move rfl rfl) ?_
  refine At.gy (t := 53) rfl (by first | rfl | (simp only [y0, w0]; simp; done)) rfl rfl ?_
  refine At.p (some 54) (P_move rfl rfl) ?_
  refine At.gy (t := 53) rfl (by first | rfl | (simp only [y0, w0]; simp; done)) rfl rfl ?_
  refine At.p (some 55) (P_cmp rfl rfl rfl rfl rfl rfl) ?_
  refine At.p (some 56) (P_pick_f rfl rfl (by first | rfl | (simp only [y0, w0]; simp; done)) rfl) ?_
  refine At.p (some 57) (P_move rfl rfl) ?_
  refine At.gy (t := 57) rfl (by first | rfl | (simp only [y0, w0]; simp; done)) rfl rfl ?_
  refine At.p (some 58) (P_move rfl rfl) ?_
  refine At.gy (t := 57) rfl (by first | rfl | (simp only [y0, w0]; simp; done)) rfl rfl ?_
  refine At.p (some 59) (P_len_sl rfl rfl ⟨_, Try.underlying22⟩ rfl) ?_
  refine At.gy (t := 57) rfl (by first | rfl | (simp only [y0, w0]; simp; done)) rfl rfl ?_
  refine At.p (some 60) (P_cmp rfl rfl rfl rfl rfl rfl) ?_
  refine At.p (some 61) (P_pick_f rfl rfl (by first | rfl | (simp only [y0, w0]; simp; done)) rfl) ?_
  refine At.p (some 62) (P_move rfl rfl) ?_
  refine At.gy (t := 62) rfl (by first | rfl | (simp only [y1, w1]; simp; done)) rfl rfl ?_
  refine At.p (some 63) (P_move rfl rfl) ?_
  refine At.gy (t := 62) rfl (by first | rfl | (simp only [y1, w1]; simp; done)) rfl rfl ?_
  refine At.p (some 64) (P_len_sl rfl rfl ⟨_, Try.underlying22⟩ rfl) ?_
  refine At.gy (t := 62) rfl (by first | rfl | (simp only [y1, w1]; simp; done)) rfl rfl ?_
  refine At.p (some 65) (P_cmp rfl rfl rfl rfl rfl rfl) ?_
  refine At.p (some 66) (P_pick_f rfl rfl (by first | rfl | (simp only [y1, w1]; simp; done)) rfl) ?_
  refine At.nil ?_
  refine At.next ?_
  refine At.cond rfl (fun h66 => (by simp [y0, y1, w0, w1] at h66)) (fun h66 => ?_)
  have e66 : ((vsT key (k28 : Int) 1 1 snap).length : Int) = 34 := bne_eq_false_iff_eq.1 h66
  refine At.skip ?_
  refine At.next ?_
  refine At.seq ?_
  refine At.draws 6 [3] [.q true [1], .q false [2], .q true [4, 5], .e false 0, .e true 3] (by kernel_rfl) (by kernel_rfl) ?_
  refine At.wp (some 68) (P_move rfl rfl) ?_
  refine At.wqn ?_
  refine At.wp (some 69) (P_slice_sl (l := 0) (h := 10) (m := c44) rfl Try.underlying22 sz5 rfl rfl ⟨_, _, rfl, rfl⟩ rfl DO DO DO) ?_
  refine At.wqn ?_
  refine At.wp (some 71) (P_move rfl rfl) ?_
  refine At.wp (some 72) (P_slice_sl (l := 10) (h := (vsT key (k24 : Int) 1 1 snap).length) (m := c36) rfl Try.underlying22 sz5 rfl ⟨_, _, rfl, rfl⟩ rfl rfl DO DO DO) ?_
  refine At.wqn ?_
  refine At.we ?_
  refine S_buildSlice0 (some 67) 67 rfl Try.underlying22 sz5 (fun b67 => ?_)
  refine At.we ?_
  refine S_appendM (some 70) 67 (((vsT key (k28 : Int) 1 1 snap).take (10 - 0))) (f := u8V) (l := []) (L := ((vsT key (k28 : Int) 1 1 snap).take (10 - 0))) (m := (10 - 0)) rfl Try.underlying22 Try.underlying22 (.inr ⟨_, rfl⟩) sz5 by5 ze5 rfl rfl (fun h => ⟨rfl, rfl⟩) LN OG (Src.part (k := 44) (j := 0) (l := (vsT key (k28 : Int) 1 1 snap)) rfl (fun h => cut_zero ((fun h => g44a (by omega)) (by omega))) (fun _ => ⟨rfl, rfl, rfl⟩) OG) (fun _ => rfl) OG OG rfl LN ?_
  intro A70 b70 c70 g70a g70b
  refine At.wt rfl ?_
  refine At.s (S_appendM (some 73) 67 ((((vsT key (k28 : Int) 1 1 snap).take (10 - 0)) ++ (((vsT key (k24 : Int) 1 1 snap).drop 10).take (((vsT key (k24 : Int) 1 1 snap).length) - 10)))) (f := u8V) (l := ((vsT key (k28 : Int) 1 1 snap).take (10 - 0))) (L := (((vsT key (k24 : Int) 1 1 snap).drop 10).take (((vsT key (k24 : Int) 1 1 snap).length) - 10))) (m := (((vsT key (k24 : Int) 1 1 snap).length) - 10)) rfl Try.underlying22 Try.underlying22 (.inr ⟨_, rfl⟩) sz5 by5 ze5 rfl rfl (fun h => ⟨g70a h, rfl⟩) LN OG (Src.part (k := 36) (j := 10) (l := (vsT key (k24 : Int) 1 1 snap)) rfl (fun h => cut_addr1 ((fun h => g36a (by omega)) (by omega)) (by omega)) (fun _ => ⟨rfl, rfl, rfl⟩) OG) (fun _ => rfl) OG OG rfl LN ?_)
  intro A73 b73 c73 g73a g73b
  refine At.p (some 14) (P_assign rfl rfl) ?_
  refine At.nil ?_
  refine At.next ?_
  refine At.seq ?_
  refine At.region ?_
  refine At.q (some 75) (Q_loadA (k := 3) rfl rfl Try.underlying23 rfl sz23 LN rfl) ?_
  refine At.p (some 76) (P_move rfl rfl) ?_
  refine At.s (S_callV (some 77) [(67, _)] [77] (vs := [_, _]) rfl en47 rfl (VN (by simp) rfl View.all V0) (by simp) (c_VOpen (key := key) (b := (((vsT key (k28 : Int) 1 1 snap).take (10 - 0)) ++ (((vsT key (k24 : Int) 1 1 snap).drop 10).take (((vsT key (k24 : Int) 1 1 snap).length) - 10)))) (nb := ((((vsT key (k28 : Int) 1 1 snap).take (10 - 0)) ++ (((vsT key (k24 : Int) 1 1 snap).drop 10).take (((vsT key (k24 : Int) 1 1 snap).length) - 10))).length)) (Ab := A73) (cb := c73) (bb := b73) (qb := 0) LN LN (fun h => g73a (by omega)) OG OG) (by rintro _ _ ⟨A77, b77, c77, g77a, g77b, rfl, rfl⟩; rfl) ?_)
  rintro _ _ ⟨A77, b77, c77, g77a, g77b, rfl, rfl⟩
  refine At.p (some 74) (P_move rfl rfl) ?_
  refine At.p (some 78) (P_extract rfl rfl rfl) ?_
  refine At.p (some 79) (P_extract rfl rfl rfl) ?_
  refine At.p (some 80) (P_extract rfl rfl rfl) ?_
  refine At.s (S_alloc (some 15) 15 (zs := [iV 0, iV 0, iV 0]) rfl ze78 rfl (fun b15 => ?_))
  refine At.s (S_storeA none (k := 15) (vs := [iV (opC key (((vsT key (k28 : Int) 1 1 snap).take (10 - 0)) ++ (((vsT key (k24 : Int) 1 1 snap).drop 10).take (((vsT key (k24 : Int) 1 1 snap).length) - 10)))), iV (opN key (((vsT key (k28 : Int) 1 1 snap).take (10 - 0)) ++ (((vsT key (k24 : Int) 1 1 snap).drop 10).take (((vsT key (k24 : Int) 1 1 snap).length) - 10)))), iV (opG key (((vsT key (k28 : Int) 1 1 snap).take (10 - 0)) ++ (((vsT key (k24 : Int) 1 1 snap).drop 10).take (((vsT key (k24 : Int) 1 1 snap).length) - 10))))]) rfl rfl rfl (by rw [sz78]; exact congrArg some LN) rfl (one_cons rfl (one_cons rfl (one_cons rfl one_nil))) NG rfl LN ?_)
  refine At.p (some 16) (P_assign rfl rfl) ?_
  refine At.p (some 17) (P_assign rfl rfl) ?_
  refine At.nil ?_
  refine At.next ?_
  refine At.seq ?_
  refine At.region ?_
  refine At.q (some 82) (Q_loadA (k := 3) rfl rfl Try.underlying23 rfl sz23 LN rfl) ?_
  refine At.p (some 83) (P_move rfl rfl) ?_
  refine At.s (S_callV (some 84) [(67, _)] [84] (vs := [_, _]) rfl en49 rfl (VN (by simp) rfl View.all V0) (by simp) (r_VOpen (key := key) (b := (((vsT key (k28 : Int) 1 1 snap).take (10 - 0)) ++ (((vsT key (k24 : Int) 1 1 snap).drop 10).take (((vsT key (k24 : Int) 1 1 snap).length) - 10)))) (nb := ((((vsT key (k28 : Int) 1 1 snap).take (10 - 0)) ++ (((vsT key (k24 : Int) 1 1 snap).drop 10).take (((vsT key (k24 : Int) 1 1 snap).length) - 10))).length)) (Ab := A73) (cb := c73) (bb := b73) (qb := 0) LN LN (fun h => g73a (by omega)) OG OG) (by rintro _ _ ⟨A84, b84, c84, g84a, g84b, rfl, rfl⟩; rfl) ?_)
  rintro _ _ ⟨A84, b84, c84, g84a, g84b, rfl, rfl⟩
  refine At.p (some 81) (P_move rfl rfl) ?_
  refine At.p (some 85) (P_extract rfl rfl rfl) ?_
  refine At.p (some 86) (P_extract rfl rfl rfl) ?_
  refine At.p (some 87) (P_extract rfl rfl rfl) ?_
  refine At.s (S_alloc (some 18) 18 (zs := [iV 0, iV 0, iV 0]) rfl ze75 rfl (fun b18 => ?_))
  refine At.s (S_storeA none (k := 18) (vs := [iV (opC key (((vsT key (k28 : Int) 1 1 snap).take (10 - 0)) ++ (((vsT key (k24 : Int) 1 1 snap).drop 10).take (((vsT key (k24 : Int) 1 1 snap).length) - 10)))), iV (opN key (((vsT key (k28 : Int) 1 1 snap).take (10 - 0)) ++ (((vsT key (k24 : Int) 1 1 snap).drop 10).take (((vsT key (k24 : Int) 1 1 snap).length) - 10)))), iV (opG key (((vsT key (k28 : Int) 1 1 snap).take (10 - 0)) ++ (((vsT key (k24 : Int) 1 1 snap).drop 10).take (((vsT key (k24 : Int) 1 1 snap).length) - 10))))]) rfl rfl rfl (by rw [sz75]; exact congrArg some LN) rfl (one_cons rfl (one_cons rfl (one_cons rfl one_nil))) NG rfl LN ?_)
  refine At.p (some 19) (P_assign rfl rfl) ?_
  refine At.p (some 20) (P_assign rfl rfl) ?_
  refine At.nil ?_
  refine At.next ?_
  refine At.seq ?_
  have hmx : k24 = k28 → opE key ((((vsT key (k28 : Int) 1 1 snap).take (10 - 0)) ++ (((vsT key (k24 : Int) 1 1 snap).drop 10).take (((vsT key (k24 : Int) 1 1 snap).length) - 10)))) = 0 := snap_mix key hk24b
  refine At.region ?_
  refine At.p (some 88) (P_move rfl rfl) ?_
  refine At.q (some 89) (Q_strA (l := (vsT key (k24 : Int) 1 1 snap)) (n := ((vsT key (k24 : Int) 1 1 snap).length)) (k := 36) LN rfl Try.underlying22 Try.underlying5 Try.underlying9 rfl (fun h => g36a (by omega)) (fun _ => ⟨rfl, rfl, rfl⟩)) ?_
  refine At.p (some 90) (P_move rfl rfl) ?_
  refine At.q (some 91) (Q_strA (l := (vsT key (k28 : Int) 1 1 snap)) (n := ((vsT key (k28 : Int) 1 1 snap).length)) (k := 44) LN rfl Try.underlying22 Try.underlying5 Try.underlying9 rfl (fun h => g44a (by omega)) (fun _ => ⟨rfl, rfl, rfl⟩)) ?_
  refine At.p (some 92) (P_eql_str (a := (vsT key (k24 : Int) 1 1 snap)) (b := (vsT key (k28 : Int) 1 1 snap)) rfl rfl rfl) ?_
  refine At.p (some 93) (P_move rfl rfl) ?_
  refine At.p (some 94) (P_move rfl rfl) ?_
  refine At.p (some 95) (P_cmp rfl rfl rfl rfl rfl rfl) ?_
  refine At.p (some 96) (P_eql_bool rfl Try.underlying4 rfl rfl) ?_
  refine At.p (some 97) (P_move rfl rfl) ?_
  refine At.gy (t := 97) rfl (by rw [snap_eq hk24b hk28b]; simp) rfl rfl ?_
  refine At.p (some 98) (P_move rfl rfl) ?_
  refine At.gy (t := 97) rfl (by rw [snap_eq hk24b hk28b]; simp) rfl rfl ?_
  refine At.p (some 99) (P_move rfl rfl) ?_
  refine At.gy (t := 97) rfl (by rw [snap_eq hk24b hk28b]; simp) rfl rfl ?_
  refine At.p (some 100) (P_cmp rfl rfl rfl rfl rfl rfl) ?_
  refine At.p (some 101) (P_pick_t rfl rfl (by rw [snap_eq hk24b hk28b]; simp) rfl) ?_
  refine At.p (some 102) (P_move rfl rfl) ?_
  refine At.gy (t := 102) rfl (by simp) rfl rfl ?_
  refine At.p (some 103) (P_move rfl rfl) ?_
  refine At.gy (t := 102) rfl (by simp) rfl rfl ?_
  refine At.p (some 104) (P_move rfl rfl) ?_
  refine At.gy (t := 102) rfl (by simp) rfl rfl ?_
  refine At.p (some 105) (P_cmp rfl rfl rfl rfl rfl rfl) ?_
  refine At.gy (t := 102) rfl (by simp) rfl rfl ?_
  refine At.p (some 106) (P_move rfl rfl) ?_
  refine At.gsplit (t := 106) (want := false) rfl (fun g1 => ?_) (fun g1 => ?_)
  ·
    have eg1 : (k24 : Int) = (k28 : Int) := bne_eq_false_iff_eq.1 g1
    refine At.gy (t := 106) rfl g1 rfl rfl ?_
    refine At.p (some 107) (P_move rfl rfl) ?_
    refine At.gy (t := 106) rfl g1 rfl rfl ?_
    refine At.p (some 108) (P_cmp rfl rfl rfl rfl rfl rfl) ?_
    refine At.gy (t := 102) rfl (by simp) rfl rfl ?_
    refine At.p (some 109) (P_pick_f rfl rfl g1 rfl) ?_
    refine At.p (some 110) (P_pick_t rfl rfl (by simp) rfl) ?_
    refine At.p (some 6) (P_assign rfl rfl) ?_
    refine At.nil ?_
    refine At.next ?_
    refine At.ret ?_
    have hq0 : ((opE key (((vsT key (k28 : Int) 1 1 snap).take (10 - 0)) ++ (((vsT key (k24 : Int) 1 1 snap).drop 10).take (((vsT key (k24 : Int) 1 1 snap).length) - 10)))) == 0) = true := (by first | rfl | (simp; done) | (simp only [hmx (by omega)]; simp; done))
    refine At.give (.inl rfl) [] (rows' := []) (vs := [_]) rfl ⟨rfl, trivial⟩ rfl (by simp) (by simp) ⟨(by first | (rw [hq0]; try rfl; done) | (rw [← hq0]; try rfl; done) | (simp only [hq0]; try rfl; done) | (simp only [← hq0]; try rfl; done) | rfl), (by first | (rw [hq0]; try rfl; done) | (rw [← hq0]; try rfl; done) | (simp only [hq0]; try rfl; done) | (simp only [← hq0]; try rfl; done) | rfl)⟩
  ·
    have eg1 : (k24 : Int) ≠ (k28 : Int) := bne_iff_ne.1 g1
    refine At.gn (some 107) (t := 106) rfl g1 rfl rfl ?_
    refine At.gn (some 108) (t := 106) rfl g1 rfl rfl ?_
    refine At.gy (t := 102) rfl (by simp) rfl rfl ?_
    refine At.p (some 109) (P_pick_t rfl rfl g1 rfl) ?_
    refine At.p (some 110) (P_pick_t rfl rfl (by simp) rfl) ?_
    refine At.p (some 6) (P_assign rfl rfl) ?_
    refine At.nil ?_
    refine At.next ?_
    refine At.ret ?_
    have hq0 : true = true := (by first | rfl | (simp; done) | (simp only [hmx (by omega)]; simp; done))
    refine At.give (.inl rfl) [] (rows' := []) (vs := [_]) rfl ⟨rfl, trivial⟩ rfl (by simp) (by simp) ⟨(by first | (rw [hq0]; try rfl; done) | (rw [← hq0]; try rfl; done) | (simp only [hq0]; try rfl; done) | (simp only [← hq0]; try rfl; done) | rfl), (by first | (rw [hq0]; try rfl; done) | (rw [← hq0]; try rfl; done) | (simp only [hq0]; try rfl; done) | (simp only [← hq0]; try rfl; done) | rfl)⟩

end Go.Proofs.Ytihciioopdalnaa
