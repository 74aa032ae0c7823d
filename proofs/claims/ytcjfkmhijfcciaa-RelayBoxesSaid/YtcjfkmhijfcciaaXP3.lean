import Derived.Test.YtcjfkmhijfcciaaXP2
import Derived.Test.YtcjfkmhijfcciaaSE33
namespace Go.Proofs.Ytcjfkmhijfcciaa
set_option maxRecDepth 20000
set_option linter.unusedVariables false
set_option linter.unusedSimpArgs false
open Go.SE Go.RowKit
theorem out_zero : OutI 0 (List.replicate 17 (0 : Int)) := ⟨by simp, fun j => by rw [getD_rep]; decide, valI_rep 17⟩
theorem blk_getD (l : List (BitVec 8)) (n : Nat) {i : Nat} (h : i < 16) : (blkQ l n).getD i 0#8 = l.getD (16 * n + i) 0#8 := by
 simp [blkQ, List.getD_eq_getElem?_getD, List.getElem?_take, h]
theorem key_getD (key : List (BitVec 8)) {i : Nat} (h : i < 16) : ((key.drop 16).take 16).getD i 0#8 = key.getD (16 + i) 0#8 := by
 simp [List.getD_eq_getElem?_getD, List.getElem?_take, h]
theorem byte_of {X i : Nat} {y : Int} (h : ((X / 256 ^ i % 256 : Nat) : Int) = y % 256) : BitVec.ofInt 8 (y % 256) = BitVec.ofNat 8 (X / 256 ^ i) := by
 rw [← h]
 generalize X / 256 ^ i = z
 apply BitVec.eq_of_toNat_eq
 rw [BitVec.toNat_ofInt, BitVec.toNat_ofNat]
 omega

theorem r_Tag (key l : List (BitVec 8)) (A : Option Addr) (ca bq q : Nat) (hkey : key.length = 32) (hA : 0 < l.length → A = some ⟨bq, q, none⟩) (hca : l.length ≤ ca) (hl : l.length ≤ 1000000) :
  Con Try.prog 115 [aggK key, .slice A l.length ca] [pRow bq q l] (fun v rs => v = aggK (tagS key l) ∧ rs = []) := by
 refine Con.enter Try.func115 Try.ntmps115 (Nat.le_of_ble_eq_true rfl) rfl fun w => ?_
 refine At.seq ?_
 have hk32 : key.length = 32 := hkey
 have hs16 : ((key.drop 16).take 16).length = 16 := by simp; omega
 refine At.region ?_
 refine At.s (S_box (some 2) 2 (zs := key.map u8V) rfl rfl rfl (fun b2 => ?_))
 refine At.s (S_alloc (some 4) 4 (zs := (List.replicate 16 0#8).map u8V) rfl ze110 rfl (fun b4 => ?_))
 refine At.nil ?_
 refine At.next ?_
 refine At.seq ?_
 refine At.region ?_
 refine At.s (S_alloc (some 5) 5 (zs := (rToQ key 0).map iV) rfl ze190 rfl (fun b5 => ?_))
 refine At.nil ?_
 refine At.next ?_
 refine At.seq ?_
 refine At.seq ?_
 refine At.region ?_
 refine At.p (some 6) (P_assign rfl rfl) ?_
 refine At.nil ?_
 refine At.next ?_
 refine At.block ?_
 refine At.loopx (I := fun m fr H => ∃ i, m = 16 - i ∧ fr = frOf [(1, .slice A l.length ca), (2, ptr b2 0), (4, ptr b4 0), (5, ptr b5 0), (6, iV (i : Int))] ∧ H = hOf [(0, pRow bq q l), (2, ⟨true, b2, 0, 22, key.map u8V, 0⟩), (4, ⟨true, b4, 0, 110, (List.replicate 16 0#8).map u8V, 0⟩), (5, ⟨true, b5, 0, 190, (rToQ key i).map iV, 0⟩)] ∧ i ≤ 16) ?_ ?_
 ·
  intro Kc0 hKc0
  refine At.to [(1, _), (2, _), (4, _), (5, _), (6, _)] [(0, _), (2, _), (4, _), (5, ⟨true, b5, 0, 190, (rToQ key 0).map iV, 0⟩)] (AllL.cons_ (rfl) (AllL.cons_ (rfl) (AllL.cons_ (rfl) (AllL.cons_ (rfl) (AllL.cons_ (rfl) trivial))))) (AllL.cons_ (rfl) (AllL.cons_ (rfl) (AllL.cons_ (rfl) (AllL.cons_ (rfl) trivial)))) ?_
  exact hKc0 _ _ _ ⟨0, rfl, rfl, rfl, by omega⟩
 ·
  rintro m fr H ⟨i, rfl, rfl, rfl, hi⟩ Kc0 hKc0
  refine At.seq ?_
  refine At.seq ?_
  refine At.region ?_
  refine At.p (some 18) (P_move rfl rfl) ?_
  refine At.p (some 19) (P_cmp rfl rfl rfl rfl rfl rfl) ?_
  refine At.nil ?_
  refine At.next ?_
  refine At.cond rfl (fun h19 => ?_) (fun h19 => ?_)
  · -- cond 19 t
   have hlt : i < 16 := by simp at h19; omega
   have rl := rTo_len key hi
   have gk : ∀ x, ((rToQ key i).set i x).getD i 0 = x := fun x => by rw [getD_set, if_pos ⟨rfl, by omega⟩]
   have gk1 := gk ((key.getD i 0#8).toNat : Int)
   have gk2 : (((rToQ key i).set i ((key.getD i 0#8).toNat : Int)).set i (((rToQ key i).set i ((key.getD i 0#8).toNat : Int)).getD i 0 % 16)).getD i 0 = ((rToQ key i).set i ((key.getD i 0#8).toNat : Int)).getD i 0 % 16 := by rw [getD_set, if_pos ⟨rfl, by rw [List.length_set]; omega⟩]
   have gk3 : ∀ x y, (((rToQ key i).set i x).set i y).getD i 0 = y := fun x y => by rw [getD_set, if_pos ⟨rfl, by rw [List.length_set]; omega⟩]
   have kb := (key.getD i 0#8).isLt
   refine At.skip ?_
   refine At.next ?_
   refine At.seq ?_
   refine At.block ?_
   refine At.seq ?_
   refine At.region ?_
   refine At.p (some 22) (P_move rfl rfl) ?_
   refine At.p (some 23) (P_move rfl rfl) ?_
   refine At.p (some 24) (P_indexAddr_arr1 rfl Try.underlying22 sz5 rfl rfl rfl (by omega)) ?_
   refine At.q (some 25) (Q_loadM (k := 2) (0#8) rfl rfl Try.underlying5 rfl rfl WD) ?_
   refine At.p (some 26) (P_conv_wi UK.u8 (by decide) rfl Try.underlying5 Try.underlying3 rfl) ?_
   refine At.p (some 27) (P_indexAddr_arr1 rfl Try.underlying190 sz3 rfl rfl rfl (by omega)) ?_
   refine At.s (S_storeM none (f := iV) (k := 5) rfl rfl rfl sz3 rfl rfl rfl WD ?_)
   refine At.nil ?_
   refine At.next ?_
   refine At.seq ?_
   refine At.seq ?_
   refine At.region ?_
   refine At.p (some 28) (P_move rfl rfl) ?_
   refine At.p (some 29) (P_rem_i rfl rfl rfl (by omega) (by first | decide | omega)) ?_
   refine At.p (some 30) (P_cmp rfl rfl rfl rfl rfl rfl) ?_
   refine At.nil ?_
   refine At.next ?_
   refine At.cond rfl (fun h30 => ?_) (fun h30 => ?_)
   · -- cond 30 t
    have q3 : i % 4 = 3 := by simp at h30; omega
    refine At.region ?_
    refine At.p (some 31) (P_move rfl rfl) ?_
    refine At.p (some 32) (P_move rfl rfl) ?_
    refine At.p (some 33) (P_indexAddr_arr1 rfl Try.underlying190 sz3 rfl rfl rfl (by omega)) ?_
    refine At.q (some 34) (Q_loadM (k := 5) (0 : Int) rfl rfl Try.underlying3 rfl rfl WD) ?_
    refine At.p (some 35) (P_rem_i rfl rfl rfl (by omega) (by first | decide | omega)) ?_
    refine At.p (some 36) (P_indexAddr_arr1 rfl Try.underlying190 sz3 rfl rfl rfl (by omega)) ?_
    refine At.s (S_storeM none (f := iV) (k := 5) rfl rfl rfl sz3 rfl rfl rfl WD ?_)
    refine At.nil ?_
    refine At.next ?_
    refine At.seq ?_
    refine At.region ?_
    refine At.p (some 37) (P_move rfl rfl) ?_
    refine At.p (some 38) (P_rem_i rfl rfl rfl (by omega) (by first | decide | omega)) ?_
    refine At.p (some 39) (P_cmp rfl rfl rfl rfl rfl rfl) ?_
    refine At.p (some 40) (P_move rfl rfl) ?_
    refine At.gsplit (t := 40) (want := true) rfl (fun g1 => ?_) (fun g1 => ?_)
    ·
     refine At.gy (t := 40) rfl g1 rfl rfl ?_
     refine At.p (some 41) (P_move rfl rfl) ?_
     refine At.gy (t := 40) rfl g1 rfl rfl ?_
     refine At.p (some 42) (P_cmp rfl rfl rfl rfl rfl rfl) ?_
     refine At.p (some 43) (P_pick_t rfl rfl g1 rfl) ?_
     refine At.nil ?_
     refine At.next ?_
     refine At.cond rfl (fun h43 => ?_) (fun h43 => ?_)
     · -- cond 43 t
      have q0 : i % 4 = 0 ∧ 0 < i := by first | (simp_all; done) | (simp_all; omega)
      refine At.region ?_
      refine At.p (some 44) (P_move rfl rfl) ?_
      refine At.p (some 45) (P_move rfl rfl) ?_
      refine At.p (some 46) (P_indexAddr_arr1 rfl Try.underlying190 sz3 rfl rfl rfl (by omega)) ?_
      refine At.q (some 47) (Q_loadM (k := 5) (0 : Int) rfl rfl Try.underlying3 rfl rfl WD) ?_
      refine At.p (some 48) (P_quo_i rfl rfl rfl (by omega) (by omega) (by first | decide | omega)) ?_
      refine At.p (some 49) (P_mul_i rfl rfl rfl (by omega)) ?_
      refine At.p (some 50) (P_indexAddr_arr1 rfl Try.underlying190 sz3 rfl rfl rfl (by omega)) ?_
      refine At.s (S_storeM none (f := iV) (k := 5) rfl rfl rfl sz3 rfl rfl rfl WD ?_)
      refine At.nil ?_
      refine At.inb_n ?_
      refine At.next ?_
      refine At.region ?_
      refine At.p (some 20) (P_move rfl rfl) ?_
      refine At.p (some 21) (P_add_i rfl rfl rfl (by omega)) ?_
      refine At.p (some 6) (P_assign rfl rfl) ?_
      refine At.nil ?_
      refine At.next ?_
      refine At.to [(1, _), (2, _), (4, _), (5, _), (6, _)] [(0, _), (2, _), (4, _), (5, ⟨true, b5, 0, 190, (rToQ key (i + 1)).map iV, 0⟩)] (AllL.cons_ (rfl) (AllL.cons_ (rfl) (AllL.cons_ (rfl) (AllL.cons_ (rfl) (AllL.cons_ (rfl) trivial))))) (AllL.cons_ (rfl) (AllL.cons_ (rfl) (AllL.cons_ (rfl) (AllL.cons_ (congrArg (fun z => some (⟨true, b5, 0, 190, List.map iV z, 0⟩ : Row)) (by (try simp only [List.set_set, gk]); refine Eq.trans (congrArg _ ?_) (rTo_set key hlt); unfold rD; split <;> (try split) <;> (try simp only [gk, gk3]) <;> omega)) trivial)))) ?_
      exact hKc0 _ _ _ (by omega) ⟨i + 1, rfl, rfl, rfl, by omega⟩
     · -- cond 43 f
      have q0 : ¬ (i % 4 = 0 ∧ 0 < i) := by first | (simp_all; done) | (simp_all; omega)
      refine At.skip ?_
      refine At.inb_n ?_
      refine At.next ?_
      refine At.region ?_
      refine At.p (some 20) (P_move rfl rfl) ?_
      refine At.p (some 21) (P_add_i rfl rfl rfl (by omega)) ?_
      refine At.p (some 6) (P_assign rfl rfl) ?_
      refine At.nil ?_
      refine At.next ?_
      refine At.to [(1, _), (2, _), (4, _), (5, _), (6, _)] [(0, _), (2, _), (4, _), (5, ⟨true, b5, 0, 190, (rToQ key (i + 1)).map iV, 0⟩)] (AllL.cons_ (rfl) (AllL.cons_ (rfl) (AllL.cons_ (rfl) (AllL.cons_ (rfl) (AllL.cons_ (rfl) trivial))))) (AllL.cons_ (rfl) (AllL.cons_ (rfl) (AllL.cons_ (rfl) (AllL.cons_ (congrArg (fun z => some (⟨true, b5, 0, 190, List.map iV z, 0⟩ : Row)) (by (try simp only [List.set_set, gk]); refine Eq.trans (congrArg _ ?_) (rTo_set key hlt); unfold rD; split <;> (try split) <;> (try simp only [gk, gk3]) <;> omega)) trivial)))) ?_
      exact hKc0 _ _ _ (by omega) ⟨i + 1, rfl, rfl, rfl, by omega⟩
    ·
     refine At.gn (some 41) (t := 40) rfl g1 rfl rfl ?_
     refine At.gn (some 42) (t := 40) rfl g1 rfl rfl ?_
     refine At.p (some 43) (P_pick_f rfl rfl g1 rfl) ?_
     refine At.nil ?_
     refine At.next ?_
     refine At.cond rfl (fun h => absurd (h.symm.trans rfl) (by decide)) (fun _ => ?_)
     have q0 : ¬ (i % 4 = 0 ∧ 0 < i) := by first | (simp_all; done) | (simp_all; omega)
     refine At.skip ?_
     refine At.inb_n ?_
     refine At.next ?_
     refine At.region ?_
     refine At.p (some 20) (P_move rfl rfl) ?_
     refine At.p (some 21) (P_add_i rfl rfl rfl (by omega)) ?_
     refine At.p (some 6) (P_assign rfl rfl) ?_
     refine At.nil ?_
     refine At.next ?_
     refine At.to [(1, _), (2, _), (4, _), (5, _), (6, _)] [(0, _), (2, _), (4, _), (5, ⟨true, b5, 0, 190, (rToQ key (i + 1)).map iV, 0⟩)] (AllL.cons_ (rfl) (AllL.cons_ (rfl) (AllL.cons_ (rfl) (AllL.cons_ (rfl) (AllL.cons_ (rfl) trivial))))) (AllL.cons_ (rfl) (AllL.cons_ (rfl) (AllL.cons_ (rfl) (AllL.cons_ (congrArg (fun z => some (⟨true, b5, 0, 190, List.map iV z, 0⟩ : Row)) (by (try simp only [List.set_set, gk]); refine Eq.trans (congrArg _ ?_) (rTo_set key hlt); unfold rD; split <;> (try split) <;> (try simp only [gk, gk3]) <;> omega)) trivial)))) ?_
     exact hKc0 _ _ _ (by omega) ⟨i + 1, rfl, rfl, rfl, by omega⟩
   · -- cond 30 f
    have q3 : ¬ i % 4 = 3 := by simp at h30; omega
    refine At.skip ?_
    refine At.next ?_
    refine At.seq ?_
    refine At.region ?_
    refine At.p (some 37) (P_move rfl rfl) ?_
    refine At.p (some 38) (P_rem_i rfl rfl rfl (by omega) (by first | decide | omega)) ?_
    refine At.p (some 39) (P_cmp rfl rfl rfl rfl rfl rfl) ?_
    refine At.p (some 40) (P_move rfl rfl) ?_
    refine At.gsplit (t := 40) (want := true) rfl (fun g2 => ?_) (fun g2 => ?_)
    ·
     refine At.gy (t := 40) rfl g2 rfl rfl ?_
     refine At.p (some 41) (P_move rfl rfl) ?_
     refine At.gy (t := 40) rfl g2 rfl rfl ?_
     refine At.p (some 42) (P_cmp rfl rfl rfl rfl rfl rfl) ?_
     refine At.p (some 43) (P_pick_t rfl rfl g2 rfl) ?_
     refine At.nil ?_
     refine At.next ?_
     refine At.cond rfl (fun h43 => ?_) (fun h43 => ?_)
     · -- cond 43 t
      have q0 : i % 4 = 0 ∧ 0 < i := by first | (simp_all; done) | (simp_all; omega)
      refine At.region ?_
      refine At.p (some 44) (P_move rfl rfl) ?_
      refine At.p (some 45) (P_move rfl rfl) ?_
      refine At.p (some 46) (P_indexAddr_arr1 rfl Try.underlying190 sz3 rfl rfl rfl (by omega)) ?_
      refine At.q (some 47) (Q_loadM (k := 5) (0 : Int) rfl rfl Try.underlying3 rfl rfl WD) ?_
      refine At.p (some 48) (P_quo_i rfl rfl rfl (by omega) (by omega) (by first | decide | omega)) ?_
      refine At.p (some 49) (P_mul_i rfl rfl rfl (by omega)) ?_
      refine At.p (some 50) (P_indexAddr_arr1 rfl Try.underlying190 sz3 rfl rfl rfl (by omega)) ?_
      refine At.s (S_storeM none (f := iV) (k := 5) rfl rfl rfl sz3 rfl rfl rfl WD ?_)
      refine At.nil ?_
      refine At.inb_n ?_
      refine At.next ?_
      refine At.region ?_
      refine At.p (some 20) (P_move rfl rfl) ?_
      refine At.p (some 21) (P_add_i rfl rfl rfl (by omega)) ?_
      refine At.p (some 6) (P_assign rfl rfl) ?_
      refine At.nil ?_
      refine At.next ?_
      refine At.to [(1, _), (2, _), (4, _), (5, _), (6, _)] [(0, _), (2, _), (4, _), (5, ⟨true, b5, 0, 190, (rToQ key (i + 1)).map iV, 0⟩)] (AllL.cons_ (rfl) (AllL.cons_ (rfl) (AllL.cons_ (rfl) (AllL.cons_ (rfl) (AllL.cons_ (rfl) trivial))))) (AllL.cons_ (rfl) (AllL.cons_ (rfl) (AllL.cons_ (rfl) (AllL.cons_ (congrArg (fun z => some (⟨true, b5, 0, 190, List.map iV z, 0⟩ : Row)) (by (try simp only [List.set_set, gk]); refine Eq.trans (congrArg _ ?_) (rTo_set key hlt); unfold rD; split <;> (try split) <;> (try simp only [gk, gk3]) <;> omega)) trivial)))) ?_
      exact hKc0 _ _ _ (by omega) ⟨i + 1, rfl, rfl, rfl, by omega⟩
     · -- cond 43 f
      have q0 : ¬ (i % 4 = 0 ∧ 0 < i) := by first | (simp_all; done) | (simp_all; omega)
      refine At.skip ?_
      refine At.inb_n ?_
      refine At.next ?_
      refine At.region ?_
      refine At.p (some 20) (P_move rfl rfl) ?_
      refine At.p (some 21) (P_add_i rfl rfl rfl (by omega)) ?_
      refine At.p (some 6) (P_assign rfl rfl) ?_
      refine At.nil ?_
      refine At.next ?_
      refine At.to [(1, _), (2, _), (4, _), (5, _), (6, _)] [(0, _), (2, _), (4, _), (5, ⟨true, b5, 0, 190, (rToQ key (i + 1)).map iV, 0⟩)] (AllL.cons_ (rfl) (AllL.cons_ (rfl) (AllL.cons_ (rfl) (AllL.cons_ (rfl) (AllL.cons_ (rfl) trivial))))) (AllL.cons_ (rfl) (AllL.cons_ (rfl) (AllL.cons_ (rfl) (AllL.cons_ (congrArg (fun z => some (⟨true, b5, 0, 190, List.map iV z, 0⟩ : Row)) (by (try simp only [List.set_set, gk]); refine Eq.trans (congrArg _ ?_) (rTo_set key hlt); unfold rD; split <;> (try split) <;> (try simp only [gk, gk3]) <;> omega)) trivial)))) ?_
      exact hKc0 _ _ _ (by omega) ⟨i + 1, rfl, rfl, rfl, by omega⟩
    ·
     refine At.gn (some 41) (t := 40) rfl g2 rfl rfl ?_
     refine At.gn (some 42) (t := 40) rfl g2 rfl rfl ?_
     refine At.p (some 43) (P_pick_f rfl rfl g2 rfl) ?_
     refine At.nil ?_
     refine At.next ?_
     refine At.cond rfl (fun h => absurd (h.symm.trans rfl) (by decide)) (fun _ => ?_)
     have q0 : ¬ (i % 4 = 0 ∧ 0 < i) := by first | (simp_all; done) | (simp_all; omega)
     refine At.skip ?_
     refine At.inb_n ?_
     refine At.next ?_
     refine At.region ?_
     refine At.p (some 20) (P_move rfl rfl) ?_
     refine At.p (some 21) (P_add_i rfl rfl rfl (by omega)) ?_
     refine At.p (some 6) (P_assign rfl rfl) ?_
     refine At.nil ?_
     refine At.next ?_
     refine At.to [(1, _), (2, _), (4, _), (5, _), (6, _)] [(0, _), (2, _), (4, _), (5, ⟨true, b5, 0, 190, (rToQ key (i + 1)).map iV, 0⟩)] (AllL.cons_ (rfl) (AllL.cons_ (rfl) (AllL.cons_ (rfl) (AllL.cons_ (rfl) (AllL.cons_ (rfl) trivial))))) (AllL.cons_ (rfl) (AllL.cons_ (rfl) (AllL.cons_ (rfl) (AllL.cons_ (congrArg (fun z => some (⟨true, b5, 0, 190, List.map iV z, 0⟩ : Row)) (by (try simp only [List.set_set, gk]); refine Eq.trans (congrArg _ ?_) (rTo_set key hlt); unfold rD; split <;> (try split) <;> (try simp only [gk, gk3]) <;> omega)) trivial)))) ?_
     exact hKc0 _ _ _ (by omega) ⟨i + 1, rfl, rfl, rfl, by omega⟩
  · -- cond 19 f
   obtain rfl : i = 16 := by simp at h19; omega
   rw [rTo_16]
   refine At.exit ?_
   refine At.thn_e ?_
   refine At.thn_e ?_
   refine At.inb_hit ?_
   refine At.next ?_
   refine At.seq ?_
   refine At.region ?_
   refine At.s (S_alloc (some 7) 7 (zs := (List.replicate 17 (0 : Int)).map iV) rfl ze191 rfl (fun b7 => ?_))
   refine At.nil ?_
   refine At.next ?_
   refine At.seq ?_
   refine At.seq ?_
   refine At.region ?_
   refine At.p (some 8) (P_assign rfl rfl) ?_
   refine At.nil ?_
   refine At.next ?_
   refine At.block ?_
   refine At.loopx (I := fun m fr H => ∃ (n : Nat) (h : List Int), m = l.length + 16 - 16 * n ∧ fr = frOf [(1, .slice A l.length ca), (2, ptr b2 0), (4, ptr b4 0), (5, ptr b5 0), (7, ptr b7 0), (8, iV (16 * (n : Int)))] ∧ H = hOf [(0, pRow bq q l), (2, ⟨true, b2, 0, 22, key.map u8V, 0⟩), (4, ⟨true, b4, 0, 110, (List.replicate 16 0#8).map u8V, 0⟩), (5, ⟨true, b5, 0, 190, (rI key).map iV, 0⟩), (7, ⟨true, b7, 0, 191, h.map iV, 0⟩)] ∧ 16 * n < l.length + 16 ∧ OutI ((polyN (rNum key) l n : Nat) : Int) h) ?_ ?_
   ·
    intro Kc1 hKc1
    refine At.to [(1, _), (2, _), (4, _), (5, _), (7, _), (8, _)] [(0, _), (2, _), (4, _), (5, _), (7, _)] (AllL.cons_ (rfl) (AllL.cons_ (rfl) (AllL.cons_ (rfl) (AllL.cons_ (rfl) (AllL.cons_ (rfl) (AllL.cons_ (rfl) trivial)))))) (AllL.cons_ (rfl) (AllL.cons_ (rfl) (AllL.cons_ (rfl) (AllL.cons_ (rfl) (AllL.cons_ (rfl) trivial))))) ?_
    exact hKc1 _ _ _ ⟨0, List.replicate 17 (0 : Int), rfl, rfl, rfl, by omega, out_zero⟩
   ·
    rintro m fr H ⟨n, h, rfl, rfl, rfl, hn, hh⟩ Kc1 hKc1
    refine At.seq ?_
    refine At.seq ?_
    refine At.region ?_
    refine At.p (some 51) (P_move rfl rfl) ?_
    refine At.p (some 52) (P_move rfl rfl) ?_
    refine At.p (some 53) (P_len_sl rfl rfl ⟨_, Try.underlying23⟩ rfl) ?_
    refine At.p (some 54) (P_cmp rfl rfl rfl rfl rfl rfl) ?_
    refine At.nil ?_
    refine At.next ?_
    refine At.cond rfl (fun h54 => ?_) (fun h54 => ?_)
    · -- cond 54 t
     have hlt : 16 * n < l.length := by simp at h54; omega
     obtain ⟨nn, hnn⟩ : ∃ nn, nn = min (l.length - 16 * n) 16 := ⟨_, rfl⟩
     have hbl : (blkQ l n).length = nn := by simp [blkQ]; omega
     refine At.skip ?_
     refine At.next ?_
     refine At.seq ?_
     refine At.block ?_
     refine At.seq ?_
     refine At.region ?_
     refine At.p (some 57) (P_move rfl rfl) ?_
     refine At.p (some 58) (P_len_sl rfl rfl ⟨_, Try.underlying23⟩ rfl) ?_
     refine At.p (some 59) (P_move rfl rfl) ?_
     refine At.p (some 60) (P_sub_i rfl rfl rfl (by omega)) ?_
     refine At.p (some 61) (P_min2 rfl rfl rfl rfl) ?_
     refine At.p (some 9) (P_assign rfl rfl) ?_
     refine At.nil ?_
     refine At.next ?_
     refine At.seq ?_
     refine At.seq ?_
     refine At.region ?_
     refine At.p (some 10) (P_assign rfl rfl) ?_
     refine At.nil ?_
     refine At.next ?_
     refine At.block ?_
     refine At.loopx (I := fun m fr H => ∃ (i : Nat) (g : List Int), m = nn - i ∧ fr = frOf [(1, .slice A l.length ca), (2, ptr b2 0), (4, ptr b4 0), (5, ptr b5 0), (7, ptr b7 0), (8, iV (16 * (n : Int))), (9, iV (nn : Int)), (10, iV (i : Int))] ∧ H = hOf [(0, pRow bq q l), (2, ⟨true, b2, 0, 22, key.map u8V, 0⟩), (4, ⟨true, b4, 0, 110, (List.replicate 16 0#8).map u8V, 0⟩), (5, ⟨true, b5, 0, 190, (rI key).map iV, 0⟩), (7, ⟨true, b7, 0, 191, g.map iV, 0⟩)] ∧ i ≤ nn ∧ AddI h (blkQ l n) g i) ?_ ?_
     ·
      intro Kc2 hKc2
      refine At.to [(1, _), (2, _), (4, _), (5, _), (7, _), (8, _), (9, iV (nn : Int)), (10, _)] [(0, _), (2, _), (4, _), (5, _), (7, _)] (AllL.cons_ (rfl) (AllL.cons_ (rfl) (AllL.cons_ (rfl) (AllL.cons_ (rfl) (AllL.cons_ (rfl) (AllL.cons_ (rfl) (AllL.cons_ (congrArg (fun z => some (iV z)) (by omega)) (AllL.cons_ (rfl) trivial)))))))) (AllL.cons_ (rfl) (AllL.cons_ (rfl) (AllL.cons_ (rfl) (AllL.cons_ (rfl) (AllL.cons_ (rfl) trivial))))) ?_
      exact hKc2 _ _ _ ⟨0, h, rfl, rfl, rfl, by omega, AddI.init hh⟩
     ·
      rintro m fr H ⟨i, g, rfl, rfl, rfl, hi, hG⟩ Kc2 hKc2
      refine At.seq ?_
      refine At.seq ?_
      refine At.region ?_
      refine At.p (some 62) (P_move rfl rfl) ?_
      refine At.p (some 63) (P_move rfl rfl) ?_
      refine At.p (some 64) (P_cmp rfl rfl rfl rfl rfl rfl) ?_
      refine At.nil ?_
      refine At.next ?_
      refine At.cond rfl (fun h64 => ?_) (fun h64 => ?_)
      · -- cond 64 t
       have hli : i < nn := by simp at h64; omega
       have gl := hG.len
       have g0 := hG.le i
       have kb := (l.getD (16 * n + i) 0#8).isLt
       refine At.skip ?_
       refine At.next ?_
       refine At.seq ?_
       refine At.block ?_
       refine At.draws 12 [] [.q false [0, 1, 2, 3, 4, 5, 6, 7, 8, 9, 10, 11]] (by kernel_rfl) (by kernel_rfl) ?_
       refine At.wp (some 67) (P_move rfl rfl) ?_
       refine At.wp (some 68) (P_move rfl rfl) ?_
       refine At.wp (some 69) (P_indexAddr_arr1 rfl Try.underlying191 sz3 rfl rfl rfl (by omega)) ?_
       refine At.wq (some 70) (Q_loadM (k := 7) (0 : Int) rfl rfl Try.underlying3 rfl rfl WD) ?_
       refine At.wp (some 71) (P_move rfl rfl) ?_
       refine At.wp (some 72) (P_move rfl rfl) ?_
       refine At.wp (some 73) (P_move rfl rfl) ?_
       refine At.wp (some 74) (P_add_i rfl rfl rfl (by omega)) ?_
       refine At.wp (some 75) (P_indexAddr_sl1 (j := 16 * n + i) rfl Try.underlying23 sz5 rfl (hA (by omega)) rfl (by omega) (by omega)) ?_
       refine At.wq (some 76) (Q_loadR (l := l) (k := 0) (j := 16 * n + i) (0#8) rfl rfl Try.underlying5 rfl rfl rfl (by omega)) ?_
       refine At.wp (some 77) (P_conv_wi UK.u8 (by decide) rfl Try.underlying5 Try.underlying3 rfl) ?_
       refine At.wp (some 78) (P_add_i rfl rfl rfl (by omega)) ?_
       refine At.wqn ?_
       refine At.wt rfl ?_
       refine At.p (some 79) (P_indexAddr_arr1 rfl Try.underlying191 sz3 rfl rfl rfl (by omega)) ?_
       refine At.s (S_storeM none (f := iV) (k := 7) rfl rfl rfl sz3 rfl rfl rfl WD ?_)
       refine At.nil ?_
       refine At.inb_n ?_
       refine At.next ?_
       refine At.region ?_
       refine At.p (some 65) (P_move rfl rfl) ?_
       refine At.p (some 66) (P_add_i rfl rfl rfl (by omega)) ?_
       refine At.p (some 10) (P_assign rfl rfl) ?_
       refine At.nil ?_
       refine At.next ?_
       refine At.to [(1, _), (2, _), (4, _), (5, _), (7, _), (8, _), (9, _), (10, _)] [(0, _), (2, _), (4, _), (5, _), (7, _)] (AllL.cons_ (rfl) (AllL.cons_ (rfl) (AllL.cons_ (rfl) (AllL.cons_ (rfl) (AllL.cons_ (rfl) (AllL.cons_ (rfl) (AllL.cons_ (rfl) (AllL.cons_ (rfl) trivial)))))))) (AllL.cons_ (rfl) (AllL.cons_ (rfl) (AllL.cons_ (rfl) (AllL.cons_ (rfl) (AllL.cons_ (rfl) trivial))))) ?_
       exact hKc2 _ _ _ (by omega) ⟨i + 1, _, rfl, rfl, rfl, by omega, hG.step hh (by omega) (by omega) (l.getD (16 * n + i) 0#8) (blk_getD l n (by omega))⟩
      · -- cond 64 f
       obtain rfl : i = nn := by simp at h64; omega
       have gl := hG.len
       have g0 := hG.le i
       refine At.exit ?_
       refine At.thn_e ?_
       refine At.thn_e ?_
       refine At.inb_hit ?_
       refine At.next ?_
       refine At.seq ?_
       refine At.region ?_
       refine At.p (some 80) (P_move rfl rfl) ?_
       refine At.p (some 81) (P_move rfl rfl) ?_
       refine At.p (some 82) (P_indexAddr_arr1 (j := i) rfl Try.underlying191 sz3 rfl rfl (by omega) (by omega)) ?_
       refine At.q (some 83) (Q_loadM (k := 7) (0 : Int) rfl rfl Try.underlying3 rfl rfl WD) ?_
       refine At.p (some 84) (P_add_i rfl rfl rfl (by omega)) ?_
       refine At.p (some 85) (P_indexAddr_arr1 (j := i) rfl Try.underlying191 sz3 rfl rfl (by omega) (by omega)) ?_
       refine At.s (S_storeM none (f := iV) (k := 7) rfl rfl rfl sz3 rfl rfl rfl WD ?_)
       refine At.nil ?_
       refine At.next ?_
       refine At.seq ?_
       rw [← hbl] at hG
       have hg := hG.fin hh (blk_len l n)
       rw [hbl] at hg
       generalize g.set i (g.getD i 0 + 1) = G at *
       refine At.region ?_
       refine At.s (S_alloc (some 11) 11 (zs := (List.replicate 40 (0 : Int)).map iV) rfl ze192 rfl (fun b11 => ?_))
       refine At.nil ?_
       refine At.next ?_
       refine At.seq ?_
       refine At.seq ?_
       refine At.region ?_
       refine At.p (some 12) (P_assign rfl rfl) ?_
       refine At.nil ?_
       refine At.next ?_
       refine At.block ?_
       refine At.loopx (I := fun m fr H => ∃ (i : Nat) (t : List Int), m = 17 - i ∧ fr = frOf [(1, .slice A l.length ca), (2, ptr b2 0), (4, ptr b4 0), (5, ptr b5 0), (7, ptr b7 0), (8, iV (16 * (n : Int))), (11, ptr b11 0), (12, iV (i : Int))] ∧ H = hOf [(0, pRow bq q l), (2, ⟨true, b2, 0, 22, key.map u8V, 0⟩), (4, ⟨true, b4, 0, 110, (List.replicate 16 0#8).map u8V, 0⟩), (5, ⟨true, b5, 0, 190, (rI key).map iV, 0⟩), (7, ⟨true, b7, 0, 191, G.map iV, 0⟩), (11, ⟨true, b11, 0, 192, t.map iV, 0⟩)] ∧ i ≤ 17 ∧ MulI G (rI key) t i 0) ?_ ?_
       ·
        intro Kc3 hKc3
        refine At.to [(1, _), (2, _), (4, _), (5, _), (7, _), (8, _), (11, _), (12, _)] [(0, _), (2, _), (4, _), (5, _), (7, _), (11, _)] (AllL.cons_ (rfl) (AllL.cons_ (rfl) (AllL.cons_ (rfl) (AllL.cons_ (rfl) (AllL.cons_ (rfl) (AllL.cons_ (rfl) (AllL.cons_ (rfl) (AllL.cons_ (rfl) trivial)))))))) (AllL.cons_ (rfl) (AllL.cons_ (rfl) (AllL.cons_ (rfl) (AllL.cons_ (rfl) (AllL.cons_ (rfl) (AllL.cons_ (rfl) trivial)))))) ?_
        exact hKc3 _ _ _ ⟨0, List.replicate 40 (0 : Int), rfl, rfl, rfl, by omega, MulI.init _ _⟩
       ·
        rintro m fr H ⟨i, t, rfl, rfl, rfl, hi, hT⟩ Kc3 hKc3
        refine At.seq ?_
        refine At.seq ?_
        refine At.region ?_
        refine At.p (some 86) (P_move rfl rfl) ?_
        refine At.p (some 87) (P_cmp rfl rfl rfl rfl rfl rfl) ?_
        refine At.nil ?_
        refine At.next ?_
        refine At.cond rfl (fun h87 => ?_) (fun h87 => ?_)
        · -- cond 87 t
         have hlt : i < 17 := by simp at h87; omega
         have hgl := hg.len
         have htl := hT.len
         refine At.skip ?_
         refine At.next ?_
         refine At.seq ?_
         refine At.block ?_
         refine At.seq ?_
         refine At.region ?_
         refine At.p (some 13) (P_assign rfl rfl) ?_
         refine At.nil ?_
         refine At.next ?_
         refine At.block ?_
         refine At.loopx (I := fun m fr H => ∃ (j : Nat) (u : List Int), m = 16 - j ∧ fr = frOf [(1, .slice A l.length ca), (2, ptr b2 0), (4, ptr b4 0), (5, ptr b5 0), (7, ptr b7 0), (8, iV (16 * (n : Int))), (11, ptr b11 0), (12, iV (i : Int)), (13, iV (j : Int))] ∧ H = hOf [(0, pRow bq q l), (2, ⟨true, b2, 0, 22, key.map u8V, 0⟩), (4, ⟨true, b4, 0, 110, (List.replicate 16 0#8).map u8V, 0⟩), (5, ⟨true, b5, 0, 190, (rI key).map iV, 0⟩), (7, ⟨true, b7, 0, 191, G.map iV, 0⟩), (11, ⟨true, b11, 0, 192, u.map iV, 0⟩)] ∧ j ≤ 16 ∧ MulI G (rI key) u i j) ?_ ?_
         ·
          intro Kc4 hKc4
          refine At.to [(1, _), (2, _), (4, _), (5, _), (7, _), (8, _), (11, _), (12, _), (13, _)] [(0, _), (2, _), (4, _), (5, _), (7, _), (11, _)] (AllL.cons_ (rfl) (AllL.cons_ (rfl) (AllL.cons_ (rfl) (AllL.cons_ (rfl) (AllL.cons_ (rfl) (AllL.cons_ (rfl) (AllL.cons_ (rfl) (AllL.cons_ (rfl) (AllL.cons_ (rfl) trivial))))))))) (AllL.cons_ (rfl) (AllL.cons_ (rfl) (AllL.cons_ (rfl) (AllL.cons_ (rfl) (AllL.cons_ (rfl) (AllL.cons_ (rfl) trivial)))))) ?_
          exact hKc4 _ _ _ ⟨0, t, rfl, rfl, rfl, by omega, hT⟩
         ·
          rintro m fr H ⟨j, u, rfl, rfl, rfl, hj, hU⟩ Kc4 hKc4
          refine At.seq ?_
          refine At.seq ?_
          refine At.region ?_
          refine At.p (some 90) (P_move rfl rfl) ?_
          refine At.p (some 91) (P_cmp rfl rfl rfl rfl rfl rfl) ?_
          refine At.nil ?_
          refine At.next ?_
          refine At.cond rfl (fun h91 => ?_) (fun h91 => ?_)
          · -- cond 91 t
           have hlj : j < 16 := by simp at h91; omega
           have hul := hU.len
           have hgi := hg.le i
           have hrj : 0 ≤ (rI key).getD j 0 ∧ (rI key).getD j 0 ≤ 255 := by rw [rI_getD key hlj]; exact rD_le key j
           have hm := mul_le hgi hrj
           have hu0 := hU.le (i + j)
           have hrl : (rI key).length = 16 := rfl
           refine At.skip ?_
           refine At.next ?_
           refine At.seq ?_
           refine At.block ?_
           refine At.draws 16 [] [.q false [0, 1, 2, 3, 4, 5, 6, 7, 8, 9, 10, 11, 12, 13, 14, 15]] (by kernel_rfl) (by kernel_rfl) ?_
           refine At.wp (some 94) (P_move rfl rfl) ?_
           refine At.wp (some 95) (P_move rfl rfl) ?_
           refine At.wp (some 96) (P_add_i rfl rfl rfl (by omega)) ?_
           refine At.wp (some 97) (P_move rfl rfl) ?_
           refine At.wp (some 98) (P_move rfl rfl) ?_
           refine At.wp (some 99) (P_add_i rfl rfl rfl (by omega)) ?_
           refine At.wp (some 100) (P_indexAddr_arr1 (j := i + j) rfl Try.underlying192 sz3 rfl rfl (by omega) (by omega)) ?_
           refine At.wq (some 101) (Q_loadM (k := 11) (0 : Int) rfl rfl Try.underlying3 rfl rfl WD) ?_
           refine At.wp (some 102) (P_move rfl rfl) ?_
           refine At.wp (some 103) (P_indexAddr_arr1 rfl Try.underlying191 sz3 rfl rfl rfl (by omega)) ?_
           refine At.wq (some 104) (Q_loadM (k := 7) (0 : Int) rfl rfl Try.underlying3 rfl rfl WD) ?_
           refine At.wp (some 105) (P_move rfl rfl) ?_
           refine At.wp (some 106) (P_indexAddr_arr1 rfl Try.underlying190 sz3 rfl rfl rfl (by omega)) ?_
           refine At.wq (some 107) (Q_loadM (k := 5) (0 : Int) rfl rfl Try.underlying3 rfl rfl WD) ?_
           refine At.wp (some 108) (P_mul_i rfl rfl rfl (by omega)) ?_
           refine At.wp (some 109) (P_add_i rfl rfl rfl (by omega)) ?_
           refine At.wqn ?_
           refine At.wt rfl ?_
           refine At.p (some 110) (P_indexAddr_arr1 (j := i + j) rfl Try.underlying192 sz3 rfl rfl (by omega) (by omega)) ?_
           refine At.s (S_storeM none (f := iV) (k := 11) rfl rfl rfl sz3 rfl rfl rfl WD ?_)
           refine At.nil ?_
           refine At.inb_n ?_
           refine At.next ?_
           refine At.region ?_
           refine At.p (some 92) (P_move rfl rfl) ?_
           refine At.p (some 93) (P_add_i rfl rfl rfl (by omega)) ?_
           refine At.p (some 13) (P_assign rfl rfl) ?_
           refine At.nil ?_
           refine At.next ?_
           refine At.to [(1, _), (2, _), (4, _), (5, _), (7, _), (8, _), (11, _), (12, _), (13, _)] [(0, _), (2, _), (4, _), (5, _), (7, _), (11, _)] (AllL.cons_ (rfl) (AllL.cons_ (rfl) (AllL.cons_ (rfl) (AllL.cons_ (rfl) (AllL.cons_ (rfl) (AllL.cons_ (rfl) (AllL.cons_ (rfl) (AllL.cons_ (rfl) (AllL.cons_ (rfl) trivial))))))))) (AllL.cons_ (rfl) (AllL.cons_ (rfl) (AllL.cons_ (rfl) (AllL.cons_ (rfl) (AllL.cons_ (rfl) (AllL.cons_ (rfl) trivial)))))) ?_
           exact hKc4 _ _ _ (by omega) ⟨j + 1, _, rfl, rfl, rfl, by omega, hU.step hg rfl hlt hlj hrj⟩
          · -- cond 91 f
           obtain rfl : j = 16 := by simp at h91; omega
           refine At.exit ?_
           refine At.thn_e ?_
           refine At.thn_e ?_
           refine At.inb_hit ?_
           refine At.inb_n ?_
           refine At.next ?_
           refine At.region ?_
           refine At.p (some 88) (P_move rfl rfl) ?_
           refine At.p (some 89) (P_add_i rfl rfl rfl (by omega)) ?_
           refine At.p (some 12) (P_assign rfl rfl) ?_
           refine At.nil ?_
           refine At.next ?_
           refine At.to [(1, _), (2, _), (4, _), (5, _), (7, _), (8, _), (11, _), (12, _)] [(0, _), (2, _), (4, _), (5, _), (7, _), (11, _)] (AllL.cons_ (rfl) (AllL.cons_ (rfl) (AllL.cons_ (rfl) (AllL.cons_ (rfl) (AllL.cons_ (rfl) (AllL.cons_ (rfl) (AllL.cons_ (rfl) (AllL.cons_ (rfl) trivial)))))))) (AllL.cons_ (rfl) (AllL.cons_ (rfl) (AllL.cons_ (rfl) (AllL.cons_ (rfl) (AllL.cons_ (rfl) (AllL.cons_ (rfl) trivial)))))) ?_
           exact hKc3 _ _ _ (by omega) ⟨i + 1, u, rfl, rfl, rfl, by omega, hU.next hg rfl hlt⟩
        · -- cond 87 f
         obtain rfl : i = 17 := by simp at h87; omega
         have hgl := hg.len
         have htl := hT.len
         refine At.exit ?_
         refine At.thn_e ?_
         refine At.thn_e ?_
         refine At.inb_hit ?_
         refine At.next ?_
         refine At.region ?_
         refine At.q (some 111) (Q_loadA (k := 11) rfl rfl Try.underlying192 rfl sz192 WD rfl) ?_
         refine At.s (S_callV (some 112) [] [] (vs := [_]) rfl en143 rfl V0 (by simp) (p_cut t hT.len (fun k => by have := hT.le k; have k0 : bR 0 = 67108864 := rfl; omega) (by rw [hT.fin hg, r_val key hkey, ← hbl]; exact mul_lt272 (rNum_lt key))) (by rintro _ _ ⟨O, hO2, rfl, rfl⟩; rfl) ?_)
         rintro _ _ ⟨O, hO2, rfl, rfl⟩
         have hOl : O.length = 17 := hO2.1
         refine At.s (S_storeA none (k := 7) (vs := _) rfl rfl rfl (by first | (rw [sz191]; simp <;> omega) | exact sz191) rfl WA WB rfl WC ?_)
         refine At.nil ?_
         refine At.inb_n ?_
         refine At.next ?_
         refine At.region ?_
         refine At.p (some 55) (P_move rfl rfl) ?_
         refine At.p (some 56) (P_add_i rfl rfl rfl (by omega)) ?_
         refine At.p (some 8) (P_assign rfl rfl) ?_
         refine At.nil ?_
         refine At.next ?_
         refine At.to [(1, _), (2, _), (4, _), (5, _), (7, _), (8, iV (16 * ((n + 1 : Nat) : Int)))] [(0, _), (2, _), (4, _), (5, _), (7, _)] (AllL.cons_ (rfl) (AllL.cons_ (rfl) (AllL.cons_ (rfl) (AllL.cons_ (rfl) (AllL.cons_ (rfl) (AllL.cons_ (congrArg (fun z => some (iV z)) (by omega)) trivial)))))) (AllL.cons_ (rfl) (AllL.cons_ (rfl) (AllL.cons_ (rfl) (AllL.cons_ (rfl) (AllL.cons_ (rfl) trivial))))) ?_
         exact hKc1 _ _ _ (by omega) ⟨n + 1, O, rfl, rfl, rfl, by omega, poly_step (by rw [hT.fin hg, r_val key hkey, hbl]) hO2⟩
    · -- cond 54 f
     have hge : l.length ≤ 16 * n := by simp at h54; omega
     obtain rfl : n = nBlk l := by unfold nBlk; omega
     have hhl := hh.1
     obtain ⟨X, hX⟩ : ∃ X, X = polyN (rNum key) l (nBlk l) + sNum key := ⟨_, rfl⟩
     refine At.exit ?_
     refine At.thn_e ?_
     refine At.thn_e ?_
     refine At.inb_hit ?_
     refine At.next ?_
     refine At.seq ?_
     refine At.region ?_
     refine At.s (S_alloc (some 14) 14 (zs := (byTo X 0).map u8V) rfl ze110 rfl (fun b14 => ?_))
     refine At.nil ?_
     refine At.next ?_
     refine At.seq ?_
     refine At.region ?_
     refine At.p (some 15) (P_assign rfl rfl) ?_
     refine At.nil ?_
     refine At.next ?_
     refine At.seq ?_
     refine At.seq ?_
     refine At.region ?_
     refine At.p (some 16) (P_assign rfl rfl) ?_
     refine At.nil ?_
     refine At.next ?_
     refine At.block ?_
     refine At.loopx (I := fun m fr H => ∃ (i : Nat) (c : Int), m = 16 - i ∧ fr = frOf [(1, .slice A l.length ca), (2, ptr b2 0), (4, ptr b4 0), (5, ptr b5 0), (7, ptr b7 0), (14, ptr b14 0), (15, iV c), (16, iV (i : Int))] ∧ H = hOf [(2, ⟨true, b2, 0, 22, key.map u8V, 0⟩), (4, ⟨true, b4, 0, 110, (List.replicate 16 0#8).map u8V, 0⟩), (7, ⟨true, b7, 0, 191, h.map iV, 0⟩), (14, ⟨true, b14, 0, 110, (byTo X i).map u8V, 0⟩)] ∧ i ≤ 16 ∧ SmI X h ((key.drop 16).take 16) i c) ?_ ?_
     ·
      intro Kc5 hKc5
      refine At.to [(1, _), (2, _), (4, _), (5, _), (7, _), (14, _), (15, _), (16, _)] [(2, _), (4, _), (7, _), (14, ⟨true, b14, 0, 110, (byTo X 0).map u8V, 0⟩)] (AllL.cons_ (rfl) (AllL.cons_ (rfl) (AllL.cons_ (rfl) (AllL.cons_ (rfl) (AllL.cons_ (rfl) (AllL.cons_ (rfl) (AllL.cons_ (rfl) (AllL.cons_ (rfl) trivial)))))))) (AllL.cons_ (rfl) (AllL.cons_ (rfl) (AllL.cons_ (rfl) (AllL.cons_ (rfl) trivial)))) ?_
      exact hKc5 _ _ _ ⟨0, 0, rfl, rfl, rfl, by omega, by rw [hX, sNum]; exact SmI.init hh⟩
     ·
      rintro m fr H ⟨i, c, rfl, rfl, rfl, hi, hS⟩ Kc5 hKc5
      refine At.seq ?_
      refine At.seq ?_
      refine At.region ?_
      refine At.p (some 113) (P_move rfl rfl) ?_
      refine At.p (some 114) (P_cmp rfl rfl rfl rfl rfl rfl) ?_
      refine At.nil ?_
      refine At.next ?_
      refine At.cond rfl (fun h114 => ?_) (fun h114 => ?_)
      · -- cond 114 t
       have hlt : i < 16 := by simp at h114; omega
       have hbt := byTo_len X hi
       have hst := (hS.step hh (by rw [hs16]; exact hlt) (by omega) (key.getD (16 + i) 0#8) (key_getD key hlt)).2
       have hd := hh.2.1 i
       have kb := (key.getD (16 + i) 0#8).isLt
       have hc0 := hS.1
       have hc1 := hS.2.1
       refine At.skip ?_
       refine At.next ?_
       refine At.seq ?_
       refine At.block ?_
       refine At.seq ?_
       refine At.draws 10 [] [.q false [0, 1, 2, 3, 4, 5, 6, 7, 8, 9]] (by kernel_rfl) (by kernel_rfl) ?_
       refine At.wp (some 117) (P_move rfl rfl) ?_
       refine At.wp (some 118) (P_indexAddr_arr1 rfl Try.underlying191 sz3 rfl rfl rfl (by omega)) ?_
       refine At.wq (some 119) (Q_loadM (k := 7) (0 : Int) rfl rfl Try.underlying3 rfl rfl WD) ?_
       refine At.wp (some 120) (P_move rfl rfl) ?_
       refine At.wp (some 121) (P_add_i rfl rfl rfl (by omega)) ?_
       refine At.wp (some 122) (P_indexAddr_arr1 (j := 16 + i) rfl Try.underlying22 sz5 rfl rfl (by omega) (by omega)) ?_
       refine At.wq (some 123) (Q_loadM (k := 2) (0#8) rfl rfl Try.underlying5 rfl rfl WD) ?_
       refine At.wp (some 124) (P_conv_wi UK.u8 (by decide) rfl Try.underlying5 Try.underlying3 rfl) ?_
       refine At.wp (some 125) (P_add_i rfl rfl rfl (by omega)) ?_
       refine At.wp (some 126) (P_move rfl rfl) ?_
       refine At.wqn ?_
       refine At.wt rfl ?_
       refine At.p (some 127) (P_add_i rfl rfl rfl (by omega)) ?_
       refine At.p (some 17) (P_assign rfl rfl) ?_
       refine At.nil ?_
       refine At.next ?_
       refine At.region ?_
       refine At.p (some 128) (P_move rfl rfl) ?_
       refine At.p (some 129) (P_move rfl rfl) ?_
       refine At.p (some 130) (P_rem_i rfl rfl rfl (by omega) (by first | decide | omega)) ?_
       refine At.p (some 131) (P_conv_iw UK.u8 rfl Try.underlying3 Try.underlying5 rfl) ?_
       refine At.p (some 132) (P_move rfl rfl) ?_
       refine At.p (some 133) (P_quo_i rfl rfl rfl (by omega) (by omega) (by first | decide | omega)) ?_
       refine At.p (some 134) (P_indexAddr_arr1 rfl Try.underlying110 sz5 rfl rfl rfl (by omega)) ?_
       refine At.s (S_storeM none (f := u8V) (k := 14) rfl rfl rfl sz5 rfl rfl rfl WD ?_)
       refine At.p (some 15) (P_assign rfl rfl) ?_
       refine At.nil ?_
       refine At.inb_n ?_
       refine At.next ?_
       refine At.region ?_
       refine At.p (some 115) (P_move rfl rfl) ?_
       refine At.p (some 116) (P_add_i rfl rfl rfl (by omega)) ?_
       refine At.p (some 16) (P_assign rfl rfl) ?_
       refine At.nil ?_
       refine At.next ?_
       refine At.to [(1, _), (2, _), (4, _), (5, _), (7, _), (14, _), (15, _), (16, _)] [(2, _), (4, _), (7, _), (14, ⟨true, b14, 0, 110, (byTo X (i + 1)).map u8V, 0⟩)] (AllL.cons_ (rfl) (AllL.cons_ (rfl) (AllL.cons_ (rfl) (AllL.cons_ (rfl) (AllL.cons_ (rfl) (AllL.cons_ (rfl) (AllL.cons_ (rfl) (AllL.cons_ (rfl) trivial)))))))) (AllL.cons_ (rfl) (AllL.cons_ (rfl) (AllL.cons_ (rfl) (AllL.cons_ (congrArg (fun z => some (⟨true, b14, 0, 110, List.map u8V z, 0⟩ : Row)) ((congrArg _ (byte_of hst)).trans (byTo_set X hlt))) trivial)))) ?_
       exact hKc5 _ _ _ (by omega) ⟨i + 1, _, rfl, rfl, rfl, by omega, (hS.step hh (by rw [hs16]; exact hlt) (by omega) (key.getD (16 + i) 0#8) (key_getD key hlt)).1⟩
      · -- cond 114 f
       obtain rfl : i = 16 := by simp at h114; omega
       have hbt := byTo_len X (show 16 ≤ 16 by decide)
       refine At.exit ?_
       refine At.thn_e ?_
       refine At.thn_e ?_
       refine At.inb_hit ?_
       refine At.next ?_
       refine At.seq ?_
       refine At.region ?_
       refine At.q (some 135) (Q_loadA (k := 14) rfl rfl Try.underlying110 rfl sz110 WD rfl) ?_
       refine At.s (S_storeA none (k := 4) (vs := _) rfl rfl rfl (by first | (rw [sz110]; simp <;> omega) | exact sz110) rfl WA WB rfl WC ?_)
       refine At.nil ?_
       refine At.next ?_
       refine At.ret ?_
       refine At.giveV (.inl rfl) [] (rows' := []) (ResV.cellA (k := 4) rfl rfl Try.underlying110 rfl sz110 ((List.length_map u8V).trans hbt) rfl) rfl (by simp) (by simp) ?_
       exact ⟨by rw [tagS_val key l hkey, ← hX, byTo_16]; rfl, rfl⟩

theorem c_TagN {key l : List (BitVec 8)} {A : Option Addr} {n ca bq q : Nat} (hn : l.length = n) (hkey : key.length = 32) (hA : 0 < n → A = some ⟨bq, q, none⟩) (hca : n ≤ ca) (hl : n ≤ 1000000) : Con Try.prog 113 [aggK key, .slice A n ca] [pRow bq q l] (fun v rs => v = aggK (tagS key l) ∧ rs = []) := by
 subst hn
 exact c_Tag key l A ca bq q hkey hA hca hl
theorem r_TagN {key l : List (BitVec 8)} {A : Option Addr} {n ca bq q : Nat} (hn : l.length = n) (hkey : key.length = 32) (hA : 0 < n → A = some ⟨bq, q, none⟩) (hca : n ≤ ca) (hl : n ≤ 1000000) : Con Try.prog 115 [aggK key, .slice A n ca] [pRow bq q l] (fun v rs => v = aggK (tagS key l) ∧ rs = []) := by
 subst hn
 exact r_Tag key l A ca bq q hkey hA hca hl
theorem tagS_len (key l : List (BitVec 8)) : (tagS key l).length = 16 := by simp [tagS]



end Go.Proofs.Ytcjfkmhijfcciaa

