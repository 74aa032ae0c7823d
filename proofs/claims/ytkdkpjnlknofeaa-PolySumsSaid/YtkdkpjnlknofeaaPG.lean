import Derived.Test.YtkdkpjnlknofeaaPF
namespace Go.Proofs.Ytkdkpjnlknofeaa
set_option maxRecDepth 20000
set_option linter.unusedVariables false
set_option linter.unusedSimpArgs false
open Go.SE Go.RowKit
theorem leN_inj : ∀ (a b : List (BitVec 8)), a.length = b.length → leN a = leN b → a = b
  | [], [], _, _ => rfl
  | x :: a, y :: b, h, e => by
    have hx := x.isLt
    have hy := y.isLt
    simp only [leN] at e
    have e1 : x = y := BitVec.eq_of_toNat_eq (by omega)
    rw [e1, leN_inj a b (by simpa using h) (by omega)]
theorem leN_by (X n : Nat) : leN ((List.range n).map fun i => BitVec.ofNat 8 (X / 256 ^ i)) = X % 256 ^ n := by
  induction n with
  | zero => simp [leN, Nat.mod_one]
  | succ n ih =>
    rw [List.range_succ, List.map_append, leN_app, ih, List.length_map, List.length_range, Nat.mod_pow_succ]
    simp [leN]
theorem by16_len (X : Nat) : (by16 X).length = 16 := by simp [by16]
theorem leN_by16 (X : Nat) : leN (by16 X) = X % 2 ^ 128 := leN_by X 16
theorem by16_leN {s : List (BitVec 8)} (h : s.length = 16) : by16 (leN s) = s := by
  refine leN_inj _ _ (by rw [by16_len, h]) ?_
  rw [leN_by16]
  have := leN_lt s
  rw [h] at this
  exact Nat.mod_eq_of_lt this
/-- A carry has come to place i, o places behind the start. -/
structure CarB (base T : List (BitVec 8)) (o x i : Nat) (c : Int) : Prop where
  len : T.length = base.length
  tk : T.take o = base.take o
  val : (leN ((T.drop o).take i) : Int) + c * 256 ^ i = leN ((base.drop o).take i) + x
  same : ∀ j, o + i ≤ j → T.getD j 0#8 = base.getD j 0#8
  c0 : 0 ≤ c
  c1 : c ≤ 255
theorem CarB.init (base : List (BitVec 8)) (o : Nat) (x : BitVec 8) : CarB base base o x.toNat 0 (x.toNat : Int) := by
  have := x.isLt
  exact ⟨rfl, rfl, by simp [leN], fun _ _ => rfl, by omega, by omega⟩
theorem leN_take_drop (l : List (BitVec 8)) (o i : Nat) (h : o + i < l.length) : leN ((l.drop o).take (i + 1)) = leN ((l.drop o).take i) + 256 ^ i * (l.getD (o + i) 0#8).toNat := by
  rw [leN_take _ _ (by rw [List.length_drop]; omega)]
  congr 3
  simp [List.getD_eq_getElem?_getD]
theorem CarB.step {base T : List (BitVec 8)} {o x i : Nat} {c : Int} (h : CarB base T o x i c) (hi : o + i < base.length) :
    CarB base (T.set (o + i) (BitVec.ofInt 8 (((T.getD (o + i) 0#8).toNat : Int) + c))) o x (i + 1) ((((T.getD (o + i) 0#8).toNat : Int) + c) / 256) := by
  obtain ⟨a1, a2, a3, a4, a5, a6⟩ := h
  have hb := (T.getD (o + i) 0#8).isLt
  have e := a4 (o + i) (by omega)
  have hn : ((BitVec.ofInt 8 (((T.getD (o + i) 0#8).toNat : Int) + c)).toNat : Int) = (((T.getD (o + i) 0#8).toNat : Int) + c) % 256 := by
    rw [BitVec.toNat_ofInt]
    omega
  refine ⟨by simp [a1], ?_, ?_, fun j hj => ?_, by omega, by omega⟩
  · rw [List.take_set_of_le (by omega)]
    exact a2
  · rw [leN_take_drop _ _ _ (by rw [List.length_set]; omega), leN_take_drop base o i hi]
    have e1 : ((T.set (o + i) (BitVec.ofInt 8 (((T.getD (o + i) 0#8).toNat : Int) + c))).drop o).take i = (T.drop o).take i := by
      rw [List.drop_set, if_neg (by omega), show o + i - o = i by omega, List.take_set_of_le (by omega)]
    have e2 : (T.set (o + i) (BitVec.ofInt 8 (((T.getD (o + i) 0#8).toNat : Int) + c))).getD (o + i) 0#8 = BitVec.ofInt 8 (((T.getD (o + i) 0#8).toNat : Int) + c) := by
      simp [List.getD_eq_getElem?_getD, show o + i < T.length by omega]
    rw [e1, e2, Int.natCast_add, Int.natCast_mul, hn, Int.natCast_add, Int.natCast_mul, Int.pow_succ]
    rw [← e] at *
    generalize ((T.getD (o + i) 0#8).toNat : Int) = y at *
    have e3 : ((256 ^ i : Nat) : Int) = (256 : Int) ^ i := by rw [Int.natCast_pow]; rfl
    rw [e3]
    generalize (256 : Int) ^ i = P at *
    have d := Int.emod_add_mul_ediv (y + c) 256
    have k : P * ((y + c) % 256) + (y + c) / 256 * (P * 256) = P * (y + c) := by
      have : P * (y + c) = P * ((y + c) % 256 + 256 * ((y + c) / 256)) := by rw [d]
      rw [this, Int.mul_add, Int.mul_comm P 256, ← Int.mul_assoc, ← Int.mul_assoc, Int.mul_comm ((y + c) / 256) 256]
      rw [Int.mul_assoc 256, Int.mul_comm ((y + c) / 256) P, Int.mul_comm P 256, Int.mul_assoc]
    rw [Int.mul_add] at k
    rw [Int.mul_comm c P] at a3
    omega
  · rw [List.getD_eq_getElem?_getD, List.getElem?_set_ne (by omega), ← List.getD_eq_getElem?_getD]
    exact a4 j (by omega)
theorem CarB.fin {base T : List (BitVec 8)} {o x : Nat} {c : Int} (h : CarB base T o x 16 c) : leN ((T.drop o).take 16) = (leN ((base.drop o).take 16) + x) % 2 ^ 128 := by
  have a := h.val
  have c0 := h.c0
  have b := leN_lt ((T.drop o).take 16)
  have l : 256 ^ ((T.drop o).take 16).length ≤ 256 ^ 16 := Nat.pow_le_pow_right (by decide) (by simp; omega)
  omega
theorem rNum_congr {a b : List (BitVec 8)} (ha : a.length = 32) (hb : b.length = 32) (h : a.take 16 = b.take 16) : rNum a = rNum b := by
  rw [rNum_leN a ha, rNum_leN b hb, rB, rB, h]
/-- What a key's second half is more, the tag is more. -/
theorem sums_eq {key K U l : List (BitVec 8)} {x : Nat} {c d : Int} (hk : key.length = 32) (hK : CarB key K 16 x 16 c) (hU : CarB (tagS key l) U 0 x 16 d) : U = tagS K l := by
  have hKl : K.length = 32 := by rw [hK.len, hk]
  have hUl : U.length = 16 := by rw [hU.len]; exact tagS_len _ _
  have eK := hK.fin
  have eU := hU.fin
  rw [List.drop_zero, List.take_of_length_le (l := U) (by omega), List.drop_zero, List.take_of_length_le (l := tagS key l) (by rw [tagS_len]; decide), tagS_val key l hk, leN_by16] at eU
  have er := rNum_congr hKl hk hK.tk
  rw [tagS_val K l hKl, er]
  refine leN_inj _ _ (by rw [hUl, by16_len]) ?_
  rw [leN_by16, eU]
  show _ = (_ + leN ((K.drop 16).take 16)) % _
  rw [eK]
  show ((_ + leN ((key.drop 16).take 16)) % _ + _) % _ = _
  generalize leN ((key.drop 16).take 16) = s
  generalize polyN (rNum key) l (nBlk l) = p
  omega
theorem leN_zero (n : Nat) : leN (List.replicate n 0#8) = 0 := by
  induction n with
  | zero => rfl
  | succ n ih => rw [List.replicate_succ, leN, ih]; rfl
theorem polyN_zero (l : List (BitVec 8)) (n : Nat) : polyN 0 l n = 0 := by
  cases n with
  | zero => rfl
  | succ n => rw [polyN, Nat.mul_zero]; rfl
def zkey (key : List (BitVec 8)) : List (BitVec 8) := List.replicate 16 0#8 ++ (key.drop 16).take 16
theorem zkey_len {key : List (BitVec 8)} (h : key.length = 32) : (zkey key).length = 32 := by simp [zkey]; omega
theorem zero_tag {key l : List (BitVec 8)} (hk : key.length = 32) : tagS (zkey key) l = key.drop 16 := by
  have er : rNum (zkey key) = 0 := by
    rw [rNum_congr (zkey_len hk) (b := kt0) rfl (by rw [zkey, List.take_append_of_le_length (by simp)]; rfl)]
    rfl
  have e : (key.drop 16).take 16 = key.drop 16 := List.take_of_length_le (by rw [List.length_drop]; omega)
  have es : sNum (zkey key) = leN (key.drop 16) := by
    rw [sNum, zkey, List.drop_left' (by simp), List.take_take, Nat.min_self, e]
  rw [tagS_val _ _ (zkey_len hk), er, polyN_zero, es, Nat.zero_add]
  exact by16_leN (by simp; omega)

theorem splice_z {key : List (BitVec 8)} (h : key.length = 32) : splice kt0 16 ((key.drop 16).take 16) = zkey key := by
  unfold splice zkey
  have : (key.drop 16).take 16 = key.drop 16 := List.take_of_length_le (by rw [List.length_drop]; omega)
  simp [this, kt0, h]

theorem l_Sums (key l : List (BitVec 8)) (x : BitVec 8) (A : Option Addr) (ca bq q : Nat) (hkey : key.length = 32) (hA : 0 < l.length → A = some ⟨bq, q, none⟩) (hca : l.length ≤ ca) :
    Con Try.prog 10 [aggK key, .slice A l.length ca, u8V x] [pRow bq q l] (fun v rs => v = .bool true ∧ rs = []) := by
  refine Con.enter Try.func10 Try.ntmps10 (Nat.le_of_ble_eq_true rfl) rfl fun w => ?_
  refine At.seq ?_
  have hk32 : key.length = 32 := hkey
  obtain ⟨n, hn⟩ : ∃ n, n = min l.length 100 := ⟨_, rfl⟩
  have hn2 : (l.take n).length = n := by simp; omega
  have ht1 := tagS_len key (l.take n)
  have ht2 := tagS_len (zkey key) (l.take n)
  have hk0 : kt0.length = 32 := rfl
  have hz32 := zkey_len hkey
  refine At.region ?_
  refine At.s (S_box (some 3) 3 (zs := key.map u8V) rfl rfl rfl (fun b3 => ?_))
  refine At.p (some 6) (P_assign rfl rfl) ?_
  refine At.nil ?_
  refine At.next ?_
  refine At.seq ?_
  refine At.region ?_
  refine At.p (some 17) (P_move rfl rfl) ?_
  refine At.p (some 18) (P_move rfl rfl) ?_
  refine At.p (some 19) (P_len_sl rfl rfl ⟨_, Try.underlying31⟩ rfl) ?_
  refine At.p (some 20) (P_min2 rfl rfl rfl rfl) ?_
  refine At.p (some 21) (P_slice_sl (h := n) rfl Try.underlying31 sz5 rfl rfl ⟨_, _, rfl, by omega⟩ rfl (by omega) (by omega) (by omega)) ?_
  refine At.p (some 1) (P_assign rfl rfl) ?_
  refine At.nil ?_
  refine At.next ?_
  refine At.seq ?_
  refine At.region ?_
  refine At.q (some 22) (Q_loadA (k := 3) rfl rfl Try.underlying22 rfl sz22 (by first | omega | (simp <;> omega)) rfl) ?_
  refine At.p (some 23) (P_move rfl rfl) ?_
  refine At.s (S_callV (some 24) [(0, _)] [] (vs := [_, _]) rfl en21 rfl (VN (by simp) rfl (View.sub (j := 0) (m := n) rfl rfl) V0) (by simp) (c_TagN (key := key) (l := l.take n) (n := n) hn2 hkey (fun h => cut_zero (hA (by omega))) (by omega) (by omega)) (by rintro _ _ ⟨rfl, rfl⟩; rfl) ?_)
  rintro _ _ ⟨rfl, rfl⟩
  refine At.s (S_alloc (some 7) 7 (zs := (List.replicate 16 0#8).map u8V) rfl ze36 rfl (fun b7 => ?_))
  refine At.s (S_storeA none (k := 7) (vs := _) rfl rfl rfl (by first | (rw [sz36]; simp <;> omega) | exact sz36) rfl (by first | (intro u hu; obtain ⟨z, _, rfl⟩ := List.mem_map.1 hu; rfl) | simp [Value.oneCell']) (by first | (simp; done) | (intro h; have h2 := congrArg List.length h; simp only [List.length_map, List.length_nil] at h2; omega) | (intro h; cases h)) rfl (by first | omega | (simp <;> omega) | rfl | (simp [*]; done)) ?_)
  refine At.nil ?_
  refine At.next ?_
  refine At.seq ?_
  refine At.region ?_
  refine At.q (some 25) (Q_loadA (k := 3) rfl rfl Try.underlying22 rfl sz22 (by first | omega | (simp <;> omega)) rfl) ?_
  refine At.s (S_alloc (some 8) 8 (zs := kt0.map u8V) rfl ze22 rfl (fun b8 => ?_))
  refine At.s (S_storeA none (k := 8) (vs := _) rfl rfl rfl (by first | (rw [sz22]; simp <;> omega) | exact sz22) rfl (by first | (intro u hu; obtain ⟨z, _, rfl⟩ := List.mem_map.1 hu; rfl) | simp [Value.oneCell']) (by first | (simp; done) | (intro h; have h2 := congrArg List.length h; simp only [List.length_map, List.length_nil] at h2; omega) | (intro h; cases h)) rfl (by first | omega | (simp <;> omega) | rfl | (simp [*]; done)) ?_)
  refine At.nil ?_
  refine At.next ?_
  refine At.seq ?_
  refine At.region ?_
  refine At.p (some 26) (P_move rfl rfl) ?_
  refine At.p (some 27) (P_conv_wi UK.u8 (by decide) rfl Try.underlying5 Try.underlying3 rfl) ?_
  refine At.p (some 9) (P_assign rfl rfl) ?_
  refine At.nil ?_
  refine At.next ?_
  refine At.seq ?_
  refine At.seq ?_
  refine At.region ?_
  refine At.p (some 10) (P_assign rfl rfl) ?_
  refine At.nil ?_
  refine At.next ?_
  refine At.block ?_
  refine At.loopx (I := fun m fr H => ∃ (i : Nat) (c : Int) (K : List (BitVec 8)), m = 16 - i ∧ fr = frOf [(1, .slice (cut A 0 ca 1) n ca), (2, u8V x), (3, ptr b3 0), (7, ptr b7 0), (8, ptr b8 0), (9, iV c), (10, iV (i : Int))] ∧ H = hOf [(0, pRow bq q l), (3, ⟨true, b3, 0, 22, key.map u8V, 0⟩), (7, ⟨true, b7, 0, 36, (tagS key (l.take n)).map u8V, 0⟩), (8, ⟨true, b8, 0, 22, K.map u8V, 0⟩)] ∧ i ≤ 16 ∧ CarB key K 16 x.toNat i c) ?_ ?_
  · intro Kc0 hKc0
    refine At.to [(1, _), (2, _), (3, _), (7, _), (8, _), (9, _), (10, _)] [(0, _), (3, _), (7, _), (8, _)] (AllL.cons_ (rfl) (AllL.cons_ (rfl) (AllL.cons_ (rfl) (AllL.cons_ (rfl) (AllL.cons_ (rfl) (AllL.cons_ (rfl) (AllL.cons_ (rfl) trivial))))))) (AllL.cons_ (rfl) (AllL.cons_ (rfl) (AllL.cons_ (rfl) (AllL.cons_ (rfl) trivial)))) ?_
    exact hKc0 _ _ _ ⟨0, x.toNat, key, rfl, rfl, rfl, by omega, CarB.init key 16 x⟩
  · rintro m fr H ⟨i, c, K, rfl, rfl, rfl, hi, hK⟩ Kc0 hKc0
    refine At.seq ?_
    refine At.seq ?_
    refine At.region ?_
    refine At.p (some 28) (P_move rfl rfl) ?_
    refine At.p (some 29) (P_cmp rfl rfl rfl rfl rfl rfl) ?_
    refine At.nil ?_
    refine At.next ?_
    refine At.cond rfl (fun h29 => ?_) (fun h29 => ?_)
    · -- cond 29 t
      have hlt : i < 16 := by simp at h29; omega
      have hKl := hK.len
      have kb := (K.getD (16 + i) 0#8).isLt
      have c0 := hK.c0
      have c1 := hK.c1
      refine At.skip ?_
      refine At.next ?_
      refine At.seq ?_
      refine At.block ?_
      refine At.seq ?_
      refine At.region ?_
      refine At.p (some 32) (P_move rfl rfl) ?_
      refine At.p (some 33) (P_add_i rfl rfl rfl (by omega)) ?_
      refine At.p (some 34) (P_indexAddr_arr1 (j := 16 + i) rfl Try.underlying22 sz5 rfl rfl (by omega) (by omega)) ?_
      refine At.q (some 35) (Q_loadM (k := 8) (0#8) rfl rfl Try.underlying5 rfl rfl (by first | omega | (simp <;> omega))) ?_
      refine At.p (some 36) (P_conv_wi UK.u8 (by decide) rfl Try.underlying5 Try.underlying3 rfl) ?_
      refine At.p (some 37) (P_move rfl rfl) ?_
      refine At.p (some 38) (P_add_i rfl rfl rfl (by omega)) ?_
      refine At.p (some 11) (P_assign rfl rfl) ?_
      refine At.nil ?_
      refine At.next ?_
      refine At.region ?_
      refine At.p (some 39) (P_move rfl rfl) ?_
      refine At.p (some 40) (P_add_i rfl rfl rfl (by omega)) ?_
      refine At.p (some 41) (P_move rfl rfl) ?_
      refine At.p (some 42) (P_conv_iw UK.u8 rfl Try.underlying3 Try.underlying5 rfl) ?_
      refine At.p (some 43) (P_move rfl rfl) ?_
      refine At.p (some 44) (P_quo_i rfl rfl rfl (by omega) (by omega) (by first | decide | omega)) ?_
      refine At.p (some 45) (P_indexAddr_arr1 (j := 16 + i) rfl Try.underlying22 sz5 rfl rfl (by omega) (by omega)) ?_
      refine At.s (S_storeM none (f := u8V) (k := 8) rfl rfl rfl sz5 rfl rfl rfl (by first | omega | (simp <;> omega)) ?_)
      refine At.p (some 9) (P_assign rfl rfl) ?_
      refine At.nil ?_
      refine At.inb_n ?_
      refine At.next ?_
      refine At.region ?_
      refine At.p (some 30) (P_move rfl rfl) ?_
      refine At.p (some 31) (P_add_i rfl rfl rfl (by omega)) ?_
      refine At.p (some 10) (P_assign rfl rfl) ?_
      refine At.nil ?_
      refine At.next ?_
      refine At.to [(1, _), (2, _), (3, _), (7, _), (8, _), (9, _), (10, _)] [(0, _), (3, _), (7, _), (8, _)] (AllL.cons_ (rfl) (AllL.cons_ (rfl) (AllL.cons_ (rfl) (AllL.cons_ (rfl) (AllL.cons_ (rfl) (AllL.cons_ (rfl) (AllL.cons_ (rfl) trivial))))))) (AllL.cons_ (rfl) (AllL.cons_ (rfl) (AllL.cons_ (rfl) (AllL.cons_ (rfl) trivial)))) ?_
      exact hKc0 _ _ _ (by omega) ⟨i + 1, _, _, rfl, rfl, rfl, by omega, hK.step (by omega)⟩
    · -- cond 29 f
      obtain rfl : i = 16 := by simp at h29; omega
      have hKl : K.length = 32 := hK.len.trans hkey
      have ht3 := tagS_len K (l.take n)
      refine At.exit ?_
      refine At.thn_e ?_
      refine At.thn_e ?_
      refine At.inb_hit ?_
      refine At.next ?_
      refine At.seq ?_
      refine At.region ?_
      refine At.q (some 46) (Q_loadA (k := 8) rfl rfl Try.underlying22 rfl sz22 (by first | omega | (simp <;> omega)) rfl) ?_
      refine At.p (some 47) (P_move rfl rfl) ?_
      refine At.s (S_callV (some 48) [(0, _)] [] (vs := [_, _]) rfl en21 rfl (VN (by simp) rfl (View.sub (j := 0) (m := n) rfl rfl) V0) (by simp) (c_TagN (key := K) (l := l.take n) (n := n) hn2 hKl (fun h => cut_zero (hA (by omega))) (by omega) (by omega)) (by rintro _ _ ⟨rfl, rfl⟩; rfl) ?_)
      rintro _ _ ⟨rfl, rfl⟩
      refine At.s (S_alloc (some 12) 12 (zs := (List.replicate 16 0#8).map u8V) rfl ze36 rfl (fun b12 => ?_))
      refine At.s (S_storeA none (k := 12) (vs := _) rfl rfl rfl (by first | (rw [sz36]; simp <;> omega) | exact sz36) rfl (by first | (intro u hu; obtain ⟨z, _, rfl⟩ := List.mem_map.1 hu; rfl) | simp [Value.oneCell']) (by first | (simp; done) | (intro h; have h2 := congrArg List.length h; simp only [List.length_map, List.length_nil] at h2; omega) | (intro h; cases h)) rfl (by first | omega | (simp <;> omega) | rfl | (simp [*]; done)) ?_)
      refine At.nil ?_
      refine At.next ?_
      refine At.seq ?_
      refine At.region ?_
      refine At.p (some 49) (P_move rfl rfl) ?_
      refine At.p (some 50) (P_conv_wi UK.u8 (by decide) rfl Try.underlying5 Try.underlying3 rfl) ?_
      refine At.p (some 9) (P_assign rfl rfl) ?_
      refine At.nil ?_
      refine At.next ?_
      refine At.seq ?_
      refine At.seq ?_
      refine At.region ?_
      refine At.p (some 13) (P_assign rfl rfl) ?_
      refine At.nil ?_
      refine At.next ?_
      refine At.block ?_
      refine At.loopx (I := fun m fr H => ∃ (i : Nat) (c : Int) (U : List (BitVec 8)), m = 16 - i ∧ fr = frOf [(1, .slice (cut A 0 ca 1) n ca), (2, u8V x), (3, ptr b3 0), (7, ptr b7 0), (9, iV c), (12, ptr b12 0), (13, iV (i : Int))] ∧ H = hOf [(0, pRow bq q l), (3, ⟨true, b3, 0, 22, key.map u8V, 0⟩), (7, ⟨true, b7, 0, 36, U.map u8V, 0⟩), (12, ⟨true, b12, 0, 36, (tagS K (l.take n)).map u8V, 0⟩)] ∧ i ≤ 16 ∧ CarB (tagS key (l.take n)) U 0 x.toNat i c) ?_ ?_
      · intro Kc1 hKc1
        refine At.to [(1, _), (2, _), (3, _), (7, _), (9, _), (12, _), (13, _)] [(0, _), (3, _), (7, _), (12, _)] (AllL.cons_ (rfl) (AllL.cons_ (rfl) (AllL.cons_ (rfl) (AllL.cons_ (rfl) (AllL.cons_ (rfl) (AllL.cons_ (rfl) (AllL.cons_ (rfl) trivial))))))) (AllL.cons_ (rfl) (AllL.cons_ (rfl) (AllL.cons_ (rfl) (AllL.cons_ (rfl) trivial)))) ?_
        exact hKc1 _ _ _ ⟨0, x.toNat, tagS key (l.take n), rfl, rfl, rfl, by omega, CarB.init _ 0 x⟩
      · rintro m fr H ⟨i, c, U, rfl, rfl, rfl, hi, hU⟩ Kc1 hKc1
        refine At.seq ?_
        refine At.seq ?_
        refine At.region ?_
        refine At.p (some 51) (P_move rfl rfl) ?_
        refine At.p (some 52) (P_cmp rfl rfl rfl rfl rfl rfl) ?_
        refine At.nil ?_
        refine At.next ?_
        refine At.cond rfl (fun h52 => ?_) (fun h52 => ?_)
        · -- cond 52 t
          have hlt : i < 16 := by simp at h52; omega
          have hUl := hU.len
          have ub := (U.getD i 0#8).isLt
          have c0 := hU.c0
          have c1 := hU.c1
          refine At.skip ?_
          refine At.next ?_
          refine At.seq ?_
          refine At.block ?_
          refine At.seq ?_
          refine At.region ?_
          refine At.p (some 55) (P_move rfl rfl) ?_
          refine At.p (some 56) (P_indexAddr_arr1 rfl Try.underlying36 sz5 rfl rfl rfl (by omega)) ?_
          refine At.q (some 57) (Q_loadM (k := 7) (0#8) rfl rfl Try.underlying5 rfl rfl (by first | omega | (simp <;> omega))) ?_
          refine At.p (some 58) (P_conv_wi UK.u8 (by decide) rfl Try.underlying5 Try.underlying3 rfl) ?_
          refine At.p (some 59) (P_move rfl rfl) ?_
          refine At.p (some 60) (P_add_i rfl rfl rfl (by omega)) ?_
          refine At.p (some 14) (P_assign rfl rfl) ?_
          refine At.nil ?_
          refine At.next ?_
          refine At.region ?_
          refine At.p (some 61) (P_move rfl rfl) ?_
          refine At.p (some 62) (P_move rfl rfl) ?_
          refine At.p (some 63) (P_conv_iw UK.u8 rfl Try.underlying3 Try.underlying5 rfl) ?_
          refine At.p (some 64) (P_move rfl rfl) ?_
          refine At.p (some 65) (P_quo_i rfl rfl rfl (by omega) (by omega) (by first | decide | omega)) ?_
          refine At.p (some 66) (P_indexAddr_arr1 rfl Try.underlying36 sz5 rfl rfl rfl (by omega)) ?_
          refine At.s (S_storeM none (f := u8V) (k := 7) rfl rfl rfl sz5 rfl rfl rfl (by first | omega | (simp <;> omega)) ?_)
          refine At.p (some 9) (P_assign rfl rfl) ?_
          refine At.nil ?_
          refine At.inb_n ?_
          refine At.next ?_
          refine At.region ?_
          refine At.p (some 53) (P_move rfl rfl) ?_
          refine At.p (some 54) (P_add_i rfl rfl rfl (by omega)) ?_
          refine At.p (some 13) (P_assign rfl rfl) ?_
          refine At.nil ?_
          refine At.next ?_
          refine At.to [(1, _), (2, _), (3, _), (7, _), (9, _), (12, _), (13, _)] [(0, _), (3, _), (7, _), (12, _)] (AllL.cons_ (rfl) (AllL.cons_ (rfl) (AllL.cons_ (rfl) (AllL.cons_ (rfl) (AllL.cons_ (rfl) (AllL.cons_ (rfl) (AllL.cons_ (rfl) trivial))))))) (AllL.cons_ (rfl) (AllL.cons_ (rfl) (AllL.cons_ (rfl) (AllL.cons_ (rfl) trivial)))) ?_
          exact hKc1 _ _ _ (by omega) ⟨i + 1, _, _, rfl, rfl, rfl, by omega, by have := hU.step (by omega); rwa [Nat.zero_add] at this⟩
        · -- cond 52 f
          obtain rfl : i = 16 := by simp at h52; omega
          have hUl : U.length = 16 := hU.len.trans ht1
          refine At.exit ?_
          refine At.thn_e ?_
          refine At.thn_e ?_
          refine At.inb_hit ?_
          refine At.next ?_
          refine At.seq ?_
          refine At.region ?_
          refine At.p (some 67) (P_build_arr (cs := (kt0.map u8V).toArray) (parts := _) (vs := []) rfl Try.underlying22 sz5 ze22 rfl rfl) ?_
          refine At.s (S_alloc (some 15) 15 (zs := kt0.map u8V) rfl ze22 rfl (fun b15 => ?_))
          refine At.s (S_storeA none (k := 15) (vs := _) rfl rfl rfl (by first | (rw [sz22]; simp <;> omega) | exact sz22) rfl (by first | (intro u hu; obtain ⟨z, _, rfl⟩ := List.mem_map.1 hu; rfl) | simp [Value.oneCell']) (by first | (simp; done) | (intro h; have h2 := congrArg List.length h; simp only [List.length_map, List.length_nil] at h2; omega) | (intro h; cases h)) rfl (by first | omega | (simp <;> omega) | rfl | (simp [*]; done)) ?_)
          refine At.nil ?_
          refine At.next ?_
          refine At.seq ?_
          refine At.draws 2 [] [.q false [0, 1]] (by kernel_rfl) (by kernel_rfl) ?_
          refine At.wp (some 68) (P_slice_arr1 (l := 16) rfl Try.underlying22 sz5 rfl ⟨_, _, rfl, by omega⟩ rfl rfl (by omega) (by omega) (by omega) (by omega)) ?_
          refine At.wp (some 69) (P_slice_arr1 (l := 16) rfl Try.underlying22 sz5 rfl ⟨_, _, rfl, by omega⟩ rfl rfl (by omega) (by omega) (by omega) (by omega)) ?_
          refine At.wqn ?_
          refine At.wt rfl ?_
          refine At.s (S_copyM (some 70) 15 3 (S := kt0) (j := 16) (n := 16) (L := (key.drop 16).take 16) (m := 16) rfl Try.underlying31 sz5 rfl (fun _ => rfl) rfl rfl (fun h => rfl) (fun h => ⟨rfl, rfl, rfl⟩) (by simp [List.map_take, List.map_drop]) (by rfl) (by simp; omega) (fun _ => rfl) (by decide) ?_)
          rw [show splice kt0 _ ((key.drop 16).take 16) = zkey key from splice_z hkey]
          refine At.nil ?_
          refine At.next ?_
          refine At.seq ?_
          refine At.region ?_
          refine At.q (some 71) (Q_loadA (k := 15) rfl rfl Try.underlying22 rfl sz22 (by first | omega | (simp <;> omega)) rfl) ?_
          refine At.p (some 72) (P_move rfl rfl) ?_
          refine At.s (S_callV (some 73) [(0, _)] [] (vs := [_, _]) rfl en21 rfl (VN (by simp) rfl (View.sub (j := 0) (m := n) rfl rfl) V0) (by simp) (c_TagN (key := (zkey key)) (l := l.take n) (n := n) hn2 (zkey_len hkey) (fun h => cut_zero (hA (by omega))) (by omega) (by omega)) (by rintro _ _ ⟨rfl, rfl⟩; rfl) ?_)
          rintro _ _ ⟨rfl, rfl⟩
          refine At.s (S_alloc (some 16) 16 (zs := (List.replicate 16 0#8).map u8V) rfl ze36 rfl (fun b16 => ?_))
          refine At.s (S_storeA none (k := 16) (vs := _) rfl rfl rfl (by first | (rw [sz36]; simp <;> omega) | exact sz36) rfl (by first | (intro u hu; obtain ⟨z, _, rfl⟩ := List.mem_map.1 hu; rfl) | simp [Value.oneCell']) (by first | (simp; done) | (intro h; have h2 := congrArg List.length h; simp only [List.length_map, List.length_nil] at h2; omega) | (intro h; cases h)) rfl (by first | omega | (simp <;> omega) | rfl | (simp [*]; done)) ?_)
          refine At.nil ?_
          refine At.next ?_
          refine At.seq ?_
          refine At.draws 11 [] [.q false [0, 1, 2, 3, 4, 5, 6, 7, 8, 9, 10]] (by kernel_rfl) (by kernel_rfl) ?_
          refine At.wcV (some 74) [] (vs := []) rfl en20 rfl V0 (c_tags) ?_
          refine At.wp (some 75) (P_move rfl rfl) ?_
          refine At.wgyq (some 76) (t := 75) rfl rfl rfl rfl (Q_loadA (k := 7) rfl rfl Try.underlying36 rfl sz36 (by first | omega | (simp <;> omega)) rfl) ?_
          refine At.wgyq (some 77) (t := 75) rfl rfl rfl rfl (Q_loadA (k := 12) rfl rfl Try.underlying36 rfl sz36 (by first | omega | (simp <;> omega)) rfl) ?_
          refine At.wgy (some 78) (t := 75) rfl rfl rfl rfl (P_eql_arr rfl Try.underlying36 Try.underlying5 sz5 Try.eqGuardType36 rfl rfl (by rw [hU.len]; exact tagS_len _ _) (tagS_len _ _)) ?_
          refine At.wp (some 79) (P_pick_t rfl rfl rfl rfl) ?_
          refine At.wp (some 80) (P_move rfl rfl) ?_
          refine At.wgy (some 81) (t := 80) rfl (by rw [sums_eq hkey hK hU]; simp) rfl rfl (P_slice_arr1 rfl Try.underlying36 sz5 rfl rfl rfl rfl (by omega) (by omega) (by omega) (by omega)) ?_
          refine At.wgyq (some 82) (t := 80) rfl (by rw [sums_eq hkey hK hU]; simp) rfl rfl (Q_strN (l := tagS (zkey key) (l.take n)) (n := 16) (k := 16) (j := 0) (tagS_len _ _) rfl Try.underlying31 Try.underlying5 Try.underlying9 rfl (fun h => rfl) (by exact fun _ => ⟨rfl, rfl, rfl⟩) (by rw [List.drop_zero, List.take_of_length_le (by rw [List.length_map, tagS_len]; decide)])) ?_
          refine At.wgy (some 83) (t := 80) rfl (by rw [sums_eq hkey hK hU]; simp) rfl rfl (P_slice_arr1 (l := 16) rfl Try.underlying22 sz5 rfl ⟨_, _, rfl, rfl⟩ rfl rfl (by omega) (by omega) (by omega) (by omega)) ?_
          refine At.wgyq (some 84) (t := 80) rfl (by rw [sums_eq hkey hK hU]; simp) rfl rfl (Q_strN (l := key.drop 16) (n := 16) (k := 3) (j := 16) (by rw [List.length_drop, hkey]) rfl Try.underlying31 Try.underlying5 Try.underlying9 rfl (fun h => rfl) (by exact fun _ => ⟨rfl, rfl, rfl⟩) (by rw [← List.map_drop, List.take_of_length_le (by simp; omega)])) ?_
          refine At.wqn ?_
          refine At.wt rfl ?_
          refine At.gy (t := 80) rfl (by rw [sums_eq hkey hK hU]; simp) rfl rfl ?_
          refine At.p (some 85) (P_eql_str rfl rfl rfl) ?_
          refine At.p (some 86) (P_pick_t rfl rfl (by rw [sums_eq hkey hK hU]; simp) rfl) ?_
          refine At.p (some 6) (P_assign rfl rfl) ?_
          refine At.nil ?_
          refine At.next ?_
          refine At.ret ?_
          refine At.give (.inl rfl) [] (rows' := []) (vs := [_]) rfl ⟨rfl, trivial⟩ rfl (by simp) (by simp) ⟨congrArg Value.bool (by rw [zero_tag hkey]; simp), rfl⟩
end Go.Proofs.Ytkdkpjnlknofeaa
