import Derived.Test.YtcjfkmhijfcciaaDoorXK1
import Derived.Test.YtcjfkmhijfcciaaDoorG1
namespace Go.Proofs.YtcjfkmhijfcciaaDoor
set_option maxRecDepth 20000
set_option linter.unusedVariables false
set_option linter.unusedSimpArgs false
open Go.SE Go.RowKit
theorem c_Chunk (p : Option Addr) (len cap k : Nat) (hk : 0 < k) :
  Con Tryd.prog 45 [.slice p len cap, iV (k : Int)] [] (fun v rs => ∃ bs bn, v = .func (.func 58) #[] #[ptr bs 0, ptr bn 0] ∧ rs = [⟨true, bs, 0, 36, [.slice p len cap], 0⟩, ⟨true, bn, 0, 3, [iV (k : Int)], 0⟩]) := by
 refine Con.enter Tryd.func45 Tryd.ntmps45 (Nat.le_of_ble_eq_true rfl) rfl fun w => ?_
 refine At.seq ?_
 refine At.region ?_
 refine At.s (S_box (some 2) 0 rfl rfl rfl (fun b0 => ?_))
 refine At.s (S_box (some 3) 1 rfl rfl rfl (fun b1 => ?_))
 refine At.p (some 4) (P_assign rfl rfl) ?_
 refine At.nil ?_
 refine At.next ?_
 refine At.seq ?_
 refine At.seq ?_
 refine At.region ?_
 refine At.q (some 5) (Q_loadO (k := 1) rfl rfl Tryd.underlying3 rfl rfl rfl) ?_
 refine At.p (some 6) (P_cmp rfl rfl rfl rfl rfl rfl) ?_
 refine At.nil ?_
 refine At.next ?_
 refine At.cond rfl (fun h6 => by simp at h6; omega) (fun h6 => ?_)
 refine At.skip ?_
 refine At.next ?_
 refine At.seq ?_
 refine At.region ?_
 refine At.p (some 8) (P_makeFunc (vs := [_, _]) rfl rfl) ?_
 refine At.p (some 4) (P_assign rfl rfl) ?_
 refine At.nil ?_
 refine At.next ?_
 refine At.ret ?_
 refine At.give (.inl rfl) [0, 1] (rows' := [_, _]) (vs := [_]) rfl ⟨rfl, trivial⟩ rfl (by simp) (by simp) ⟨b0, b1, rfl, rfl⟩

theorem it_Chunk (p : Option Addr) (len cap k bs bn : Nat) (hk : 0 < k) (hl : len ≤ cap) (hc : len ≤ 4611686018427387904) (hkc : k ≤ 4611686018427387904) :
  Iter Tryd.prog 58 [ptr bs 0, ptr bn 0] (chunksV p len k) (C2 bs bn (.slice p len cap) (iV (k : Int))) := by
 refine Iter.enter2 Tryd.func58 Tryd.ntmps58 (by decide) rfl fun l J Jx hI W h0 => ?_
 have hX := hI.belowX
 refine At.seq ?_
 refine At.region ?_
 refine At.p (some 4) (P_assign rfl rfl) ?_
 refine At.nil ?_
 refine At.next ?_
 refine At.block ?_
 refine At.to [(0, _), (1, _), (2, _), (4, iV ((0 * k : Nat) : Int))] [(0, _), (1, _)] (AllL.cons_ (rfl) (AllL.cons_ (rfl) (AllL.cons_ (rfl) (AllL.cons_ (by rw [Nat.zero_mul]; rfl) trivial)))) (AllL.cons_ (rfl) (AllL.cons_ (rfl) trivial)) ?_
 refine Iter.loop (xs := chunksV p len k) (J := J) (fun i => frOf [(0, .func (.yield l) #[] #[]), (1, ptr bs 0), (2, ptr bn 0), (4, iV ((i * k : Nat) : Int))]) (fun i hi W hJ K hK => ?_) h0
 rw [chunksV_len] at hi
 refine At.seq ?_
 refine At.seq ?_
 refine At.region ?_
 refine At.p (some 6) (P_move rfl rfl) ?_
 refine At.q (some 7) (Q_loadO (k := 0) rfl rfl Tryd.underlying36 rfl rfl rfl) ?_
 refine At.p (some 8) (P_len_sl rfl rfl ⟨_, Tryd.underlying36⟩ rfl) ?_
 refine At.p (some 9) (P_cmp rfl rfl rfl rfl rfl rfl) ?_
 refine At.nil ?_
 refine At.next ?_
 refine At.cond rfl (fun h9 => ?_) (fun h9 => ?_)
 · -- cond 9 t
  have hlt : i * k < len := by simp at h9; omega
  have hlt2 := (chunksV_at (p := p) hk hlt).2
  refine At.skip ?_
  refine At.next ?_
  refine At.seq ?_
  refine At.block ?_
  refine At.seq ?_
  refine At.draws 5 [] [.q false [0, 1, 2, 3, 4]] (by kernel_rfl) (by kernel_rfl) ?_
  refine At.wq (some 13) (Q_loadO (k := 1) rfl rfl Tryd.underlying3 rfl rfl rfl) ?_
  refine At.wq (some 14) (Q_loadO (k := 0) rfl rfl Tryd.underlying36 rfl rfl rfl) ?_
  refine At.wp (some 15) (P_move rfl rfl) ?_
  refine At.wp (some 16) (P_slice_sl (l := i * k) rfl Tryd.underlying36 sz5 rfl ⟨_, _, rfl, by omega⟩ rfl rfl (by omega) (by omega) (by omega)) ?_
  refine At.wp (some 17) (P_len_sl rfl rfl ⟨_, Tryd.underlying36⟩ rfl) ?_
  refine At.wqn ?_
  refine At.wt rfl ?_
  refine At.p (some 18) (P_min2 rfl rfl rfl rfl) ?_
  refine At.p (some 5) (P_assign rfl rfl) ?_
  refine At.nil ?_
  refine At.next ?_
  refine At.seq ?_
  refine At.regionYk 10 (fun ⟨_, _, h⟩ => by obtain ⟨⟨_, h⟩, _⟩ := h; cases h) ?_
  refine At.p (some 19) (P_move rfl rfl) ?_
  refine At.q (some 20) (Q_loadO (k := 0) rfl rfl Tryd.underlying36 rfl rfl rfl) ?_
  refine At.p (some 21) (P_move rfl rfl) ?_
  refine At.p (some 22) (P_move rfl rfl) ?_
  refine At.p (some 23) (P_move rfl rfl) ?_
  refine At.p (some 24) (P_add_i rfl rfl rfl (by omega)) ?_
  refine At.p (some 25) (P_move rfl rfl) ?_
  refine At.p (some 26) (P_move rfl rfl) ?_
  refine At.p (some 27) (P_add_i rfl rfl rfl (by omega)) ?_
  refine At.p (some 28) (P_slice_sl (l := i * k) (h := i * k + min k (len - i * k)) (m := i * k + min k (len - i * k)) rfl Tryd.underlying36 sz5 rfl ⟨_, _, rfl, by omega⟩ ⟨_, _, rfl, by omega⟩ ⟨_, _, rfl, by omega⟩ (by omega) (by omega) (by omega)) ?_
  refine At.nil ?_
  refine At.next ?_
  refine At.yld2 hI hJ (some 29) rfl rfl rfl (chunk_cut hk hlt) (fun B hB => ?_) (fun B hB => ?_)
  ·
   refine At.listI (fun ⟨_, _, h⟩ => by obtain ⟨⟨_, h⟩, _⟩ := h; cases h) ?_
   refine At.p (some 30) (P_not rfl rfl) ?_
   refine At.nil ?_
   refine At.next ?_
   refine At.cond rfl (fun h => absurd (h.symm.trans rfl) (by decide)) (fun _ => ?_)
   refine At.skip ?_
   refine At.inb_n ?_
   refine At.next ?_
   refine At.region ?_
   refine At.p (some 10) (P_move rfl rfl) ?_
   refine At.q (some 11) (Q_loadO (k := 1) rfl rfl Tryd.underlying3 rfl rfl rfl) ?_
   refine At.p (some 12) (P_add_i rfl rfl rfl (by omega)) ?_
   refine At.p (some 4) (P_assign rfl rfl) ?_
   refine At.nil ?_
   refine At.next ?_
   refine At.to [(0, _), (1, _), (2, _), (4, iV (((i + 1) * k : Nat) : Int))] [(0, _), (1, _)] (AllL.cons_ (rfl) (AllL.cons_ (rfl) (AllL.cons_ (rfl) (AllL.cons_ (by rw [Nat.add_mul, Nat.one_mul]; rfl) trivial)))) (AllL.cons_ (rfl) (AllL.cons_ (rfl) trivial)) ?_
   exact hK (by rw [chunksV_len]; exact hlt2) B hB
  ·
   refine At.listI (fun ⟨_, _, h⟩ => by obtain ⟨⟨_, h⟩, _⟩ := h; cases h) ?_
   refine At.p (some 30) (P_not rfl rfl) ?_
   refine At.nil ?_
   refine At.next ?_
   refine At.cond rfl (fun _ => ?_) (fun h => absurd (h.symm.trans rfl) (by decide))
   refine At.ret ?_
   refine At.inb_r ?_
   refine At.thn_r ?_
   refine At.thn_r ?_
   refine At.inb_r ?_
   refine At.done (rs := []) (vs := []) rfl rfl trivial (fun w hw _ => ⟨⟨_, rfl⟩, Or.inr ?_⟩)
   exact hX _ _ hB hw.below
 · -- cond 9 f
  have hge : len ≤ i * k := by simp at h9; omega
  refine At.exit ?_
  refine At.thn_e ?_
  refine At.thn_e ?_
  refine At.inb_hit ?_
  obtain rfl : i = (chunksV p len k).length := by rw [chunksV_len]; exact Nat.le_antisymm hi (chunksV_end hk hge)
  exact At.itEnd hI hJ rfl

def rotS (x : BitVec 32) (k : Nat) : BitVec 32 := x <<< k ||| x >>> (32 - k)
def leW (l : List (BitVec 8)) (o : Nat) : Nat → BitVec 32
 | 0 => 0#32
 | n + 1 => leW l o n ||| ((l.getD (o + n) 0#8).setWidth 32) <<< (8 * n)
def wordAt (l : List (BitVec 8)) (i : Nat) : BitVec 32 := leW l (i * 4) (min 4 (l.length - i * 4))
def wordsTo (l : List (BitVec 8)) (n : Nat) : List (BitVec 32) := (List.range n).map (wordAt l)
def wordsOf (l : List (BitVec 8)) : List (BitVec 32) := wordsTo l ((l.length + 4 - 1) / 4)
theorem wordsTo_len (l : List (BitVec 8)) (n : Nat) : (wordsTo l n).length = n := by simp [wordsTo]
theorem wordsTo_succ (l : List (BitVec 8)) (n : Nat) : wordsTo l n ++ [wordAt l n] = wordsTo l (n + 1) := by simp [wordsTo, List.range_succ]
def qS (s : List (BitVec 32)) (a b c d : Nat) : List (BitVec 32) :=
 let s := s.set a (s.getD a 0#32 + s.getD b 0#32)
 let s := s.set d (rotS (s.getD d 0#32 ^^^ s.getD a 0#32) 16)
 let s := s.set c (s.getD c 0#32 + s.getD d 0#32)
 let s := s.set b (rotS (s.getD b 0#32 ^^^ s.getD c 0#32) 12)
 let s := s.set a (s.getD a 0#32 + s.getD b 0#32)
 let s := s.set d (rotS (s.getD d 0#32 ^^^ s.getD a 0#32) 8)
 let s := s.set c (s.getD c 0#32 + s.getD d 0#32)
 s.set b (rotS (s.getD b 0#32 ^^^ s.getD c 0#32) 7)
theorem qS_len (s : List (BitVec 32)) (a b c d : Nat) : (qS s a b c d).length = s.length := by simp [qS]
def rndS (y : Nat) : Nat → List (BitVec 32) → List (BitVec 32)
 | 0, s => s
 | n + 1, s => qS (rndS y n s) n (4 + (n + y) % 4) (8 + (n + 2 * y) % 4) (12 + (n + 3 * y) % 4)
theorem rndS_len (y n : Nat) (s : List (BitVec 32)) : (rndS y n s).length = s.length := by
 induction n with
 | zero => rfl
 | succ n ih => simp [rndS, qS_len, ih]
def mixS (s : List (BitVec 32)) : List (BitVec 32) := rndS 1 4 (rndS 0 4 s)
theorem mixS_len (s : List (BitVec 32)) : (mixS s).length = s.length := by simp [mixS, rndS_len]
def mixN : Nat → List (BitVec 32) → List (BitVec 32)
 | 0, s => s
 | n + 1, s => mixS (mixN n s)
theorem mixN_len (n : Nat) (s : List (BitVec 32)) : (mixN n s).length = s.length := by
 induction n with
 | zero => rfl
 | succ n ih => simp [mixN, mixS_len, ih]
def expandB : List (BitVec 8) := [101#8, 120#8, 112#8, 97#8, 110#8, 100#8, 32#8, 51#8, 50#8, 45#8, 98#8, 121#8, 116#8, 101#8, 32#8, 107#8]
def initS (key : List (BitVec 8)) (count : BitVec 32) (nonce : List (BitVec 8)) : List (BitVec 32) := wordsOf expandB ++ wordsOf key ++ [count] ++ wordsOf nonce
def outAt (s was : List (BitVec 32)) (i : Nat) : BitVec 8 := ((s.getD (i / 4) 0#32 + was.getD (i / 4) 0#32) >>> (8 * (i % 4))).setWidth 8
def outTo (s was : List (BitVec 32)) (n : Nat) : List (BitVec 8) := (List.range n).map (outAt s was) ++ List.replicate (64 - n) 0#8
def blockS (key : List (BitVec 8)) (count : BitVec 32) (nonce : List (BitVec 8)) : List (BitVec 8) := (List.range 64).map (outAt (mixN 10 (initS key count nonce)) (initS key count nonce))
theorem blockS_len (key : List (BitVec 8)) (count : BitVec 32) (nonce : List (BitVec 8)) : (blockS key count nonce).length = 64 := by simp [blockS]
theorem outTo_len {s was : List (BitVec 32)} {n : Nat} (h : n ≤ 64) : (outTo s was n).length = 64 := by simp [outTo]; omega
theorem outTo_set {s was : List (BitVec 32)} {n : Nat} (h : n < 64) : (outTo s was n).set n (outAt s was n) = outTo s was (n + 1) := fill_set (outAt s was) 0#8 h
def bytesRow (b s : Nat) (l : List (BitVec 8)) : Row := ⟨false, b, s, 0, l.map u8V, 0⟩
def aggB (l : List (BitVec 8)) : Value := .agg (l.map u8V).toArray

theorem c_rotQ (x : BitVec 32) (k : Nat) (hk : k < 32) :
  Con Tryd.prog 71 [u32V x, iV (k : Int)] [] (fun v rs => v = u32V (rotS x k) ∧ rs = []) := by
 refine Con.enter Tryd.func71 Tryd.ntmps71 (Nat.le_of_ble_eq_true rfl) rfl fun w => ?_
 refine At.seq ?_
 refine At.region ?_
 refine At.p (some 4) (P_assign rfl rfl) ?_
 refine At.nil ?_
 refine At.next ?_
 refine At.seq ?_
 refine At.region ?_
 refine At.p (some 6) (P_move rfl rfl) ?_
 refine At.p (some 7) (P_conv_iw UK.u64 rfl Tryd.underlying3 Tryd.underlying67 rfl) ?_
 refine At.p (some 8) (P_and_w UK.u64 (b := 31#64) rfl rfl rfl) ?_
 refine At.p (some 5) (P_assign rfl rfl) ?_
 refine At.nil ?_
 refine At.next ?_
 refine At.seq ?_
 refine At.region ?_
 refine At.p (some 9) (P_move rfl rfl) ?_
 refine At.p (some 10) (P_move rfl rfl) ?_
 refine At.p (some 11) (P_shl_w UK.u32 (n := 32) rfl rfl rfl (by first | decide | omega)) ?_
 refine At.p (some 12) (P_move rfl rfl) ?_
 refine At.p (some 13) (P_move rfl rfl) ?_
 refine At.p (some 14) (P_sub_w UK.u64 (a := 32#64) rfl rfl rfl) ?_
 refine At.p (some 15) (P_shr_w UK.u32 (n := 32) rfl rfl rfl (by first | decide | omega)) ?_
 refine At.p (some 16) (P_or_w UK.u32 rfl rfl rfl) ?_
 refine At.p (some 4) (P_assign rfl rfl) ?_
 refine At.nil ?_
 refine At.next ?_
 refine At.ret ?_
 refine At.give (.inl rfl) [] (rows' := []) (vs := [_]) rfl ⟨rfl, trivial⟩ rfl (by simp) (by simp) ⟨?_, rfl⟩
 have e : (BitVec.ofInt 64 (k : Int) &&& 31#64) = BitVec.ofNat 64 k := by
  apply BitVec.eq_of_toNat_eq
  simp [BitVec.toNat_and]
  rw [show (31 : Nat) = 2 ^ 5 - 1 from rfl, Nat.and_two_pow_sub_one_eq_mod]
  omega
 have e2 : (32#64 - BitVec.ofNat 64 k).toNat = 32 - k := by
  simp [BitVec.toNat_sub]
  omega
 rw [e, retV]
 simp only [rotS, Int.toNat_natCast, e2]
 have e3 : (BitVec.ofNat 64 k).toNat = k := by simp; omega
 rw [e3]

theorem c_quarter (s : List (BitVec 32)) (hs : s.length = 16) (b0 a b c d : Nat) (ha : a < 16) (hb : b < 16) (hc : c < 16) (hd : d < 16) :
  Con Tryd.prog 72 [ptr b0 0, iV (a : Int), iV (b : Int), iV (c : Int), iV (d : Int)] [⟨true, b0, 0, 107, s.map u32V, 0⟩] (fun v rs => v = .tuple #[] ∧ rs = [⟨true, b0, 0, 107, (qS s a b c d).map u32V, 0⟩]) := by
 refine Con.enter Tryd.func72 Tryd.ntmps72 (Nat.le_of_ble_eq_true rfl) rfl fun w => ?_
 refine At.seq ?_
 refine At.draws 12 [] [.q false [0, 1, 2, 3, 4, 5, 6, 7, 8, 9, 10, 11]] (by kernel_rfl) (by kernel_rfl) ?_
 refine At.wp (some 10) (P_move rfl rfl) ?_
 refine At.wp (some 11) (P_move rfl rfl) ?_
 refine At.wp (some 12) (P_nilCheck rfl rfl) ?_
 refine At.wp (some 13) (P_indexAddr_arr1 rfl Tryd.underlying107 sz71 rfl rfl rfl (by omega)) ?_
 refine At.wq (some 14) (Q_loadM (k := 0) (0#32) rfl rfl Tryd.underlying71 rfl rfl WD) ?_
 refine At.wp (some 15) (P_move rfl rfl) ?_
 refine At.wp (some 16) (P_move rfl rfl) ?_
 refine At.wp (some 17) (P_nilCheck rfl rfl) ?_
 refine At.wp (some 18) (P_indexAddr_arr1 rfl Tryd.underlying107 sz71 rfl rfl rfl (by omega)) ?_
 refine At.wq (some 19) (Q_loadM (k := 0) (0#32) rfl rfl Tryd.underlying71 rfl rfl WD) ?_
 refine At.wp (some 20) (P_add_w UK.u32 rfl rfl rfl) ?_
 refine At.wp (some 21) (P_nilCheck rfl rfl) ?_
 refine At.wqn ?_
 refine At.wt rfl ?_
 refine At.p (some 22) (P_indexAddr_arr1 rfl Tryd.underlying107 sz71 rfl rfl rfl (by omega)) ?_
 refine At.s (S_storeM none (f := u32V) (k := 0) rfl rfl rfl sz71 rfl rfl rfl WD ?_)
 refine At.nil ?_
 refine At.next ?_
 refine At.seq ?_
 refine At.draws 15 [] [.q false [0, 1, 2, 3, 4, 5, 6, 7, 8, 9, 10, 11, 12, 13, 14]] (by kernel_rfl) (by kernel_rfl) ?_
 refine At.wp (some 23) (P_move rfl rfl) ?_
 refine At.wp (some 24) (P_move rfl rfl) ?_
 refine At.wp (some 25) (P_move rfl rfl) ?_
 refine At.wp (some 26) (P_move rfl rfl) ?_
 refine At.wp (some 27) (P_nilCheck rfl rfl) ?_
 refine At.wp (some 28) (P_indexAddr_arr1 rfl Tryd.underlying107 sz71 rfl rfl rfl (by omega)) ?_
 refine At.wq (some 29) (Q_loadM (k := 0) (0#32) rfl rfl Tryd.underlying71 rfl rfl WD) ?_
 refine At.wp (some 30) (P_move rfl rfl) ?_
 refine At.wp (some 31) (P_move rfl rfl) ?_
 refine At.wp (some 32) (P_nilCheck rfl rfl) ?_
 refine At.wp (some 33) (P_indexAddr_arr1 rfl Tryd.underlying107 sz71 rfl rfl rfl (by omega)) ?_
 refine At.wq (some 34) (Q_loadM (k := 0) (0#32) rfl rfl Tryd.underlying71 rfl rfl WD) ?_
 refine At.wp (some 35) (P_xor_w UK.u32 rfl rfl rfl) ?_
 refine At.wcV (some 36) [] (vs := [_, _]) rfl en71 rfl V0 (c_rotQ _ 16 (by decide)) ?_
 refine At.wp (some 37) (P_nilCheck rfl rfl) ?_
 refine At.wqn ?_
 refine At.wt rfl ?_
 refine At.p (some 38) (P_indexAddr_arr1 rfl Tryd.underlying107 sz71 rfl rfl rfl (by omega)) ?_
 refine At.s (S_storeM none (f := u32V) (k := 0) rfl rfl rfl sz71 rfl rfl rfl WD ?_)
 refine At.nil ?_
 refine At.next ?_
 refine At.seq ?_
 refine At.draws 12 [] [.q false [0, 1, 2, 3, 4, 5, 6, 7, 8, 9, 10, 11]] (by kernel_rfl) (by kernel_rfl) ?_
 refine At.wp (some 39) (P_move rfl rfl) ?_
 refine At.wp (some 40) (P_move rfl rfl) ?_
 refine At.wp (some 41) (P_nilCheck rfl rfl) ?_
 refine At.wp (some 42) (P_indexAddr_arr1 rfl Tryd.underlying107 sz71 rfl rfl rfl (by omega)) ?_
 refine At.wq (some 43) (Q_loadM (k := 0) (0#32) rfl rfl Tryd.underlying71 rfl rfl WD) ?_
 refine At.wp (some 44) (P_move rfl rfl) ?_
 refine At.wp (some 45) (P_move rfl rfl) ?_
 refine At.wp (some 46) (P_nilCheck rfl rfl) ?_
 refine At.wp (some 47) (P_indexAddr_arr1 rfl Tryd.underlying107 sz71 rfl rfl rfl (by omega)) ?_
 refine At.wq (some 48) (Q_loadM (k := 0) (0#32) rfl rfl Tryd.underlying71 rfl rfl WD) ?_
 refine At.wp (some 49) (P_add_w UK.u32 rfl rfl rfl) ?_
 refine At.wp (some 50) (P_nilCheck rfl rfl) ?_
 refine At.wqn ?_
 refine At.wt rfl ?_
 refine At.p (some 51) (P_indexAddr_arr1 rfl Tryd.underlying107 sz71 rfl rfl rfl (by omega)) ?_
 refine At.s (S_storeM none (f := u32V) (k := 0) rfl rfl rfl sz71 rfl rfl rfl WD ?_)
 refine At.nil ?_
 refine At.next ?_
 refine At.seq ?_
 refine At.draws 15 [] [.q false [0, 1, 2, 3, 4, 5, 6, 7, 8, 9, 10, 11, 12, 13, 14]] (by kernel_rfl) (by kernel_rfl) ?_
 refine At.wp (some 52) (P_move rfl rfl) ?_
 refine At.wp (some 53) (P_move rfl rfl) ?_
 refine At.wp (some 54) (P_move rfl rfl) ?_
 refine At.wp (some 55) (P_move rfl rfl) ?_
 refine At.wp (some 56) (P_nilCheck rfl rfl) ?_
 refine At.wp (some 57) (P_indexAddr_arr1 rfl Tryd.underlying107 sz71 rfl rfl rfl (by omega)) ?_
 refine At.wq (some 58) (Q_loadM (k := 0) (0#32) rfl rfl Tryd.underlying71 rfl rfl WD) ?_
 refine At.wp (some 59) (P_move rfl rfl) ?_
 refine At.wp (some 60) (P_move rfl rfl) ?_
 refine At.wp (some 61) (P_nilCheck rfl rfl) ?_
 refine At.wp (some 62) (P_indexAddr_arr1 rfl Tryd.underlying107 sz71 rfl rfl rfl (by omega)) ?_
 refine At.wq (some 63) (Q_loadM (k := 0) (0#32) rfl rfl Tryd.underlying71 rfl rfl WD) ?_
 refine At.wp (some 64) (P_xor_w UK.u32 rfl rfl rfl) ?_
 refine At.wcV (some 65) [] (vs := [_, _]) rfl en71 rfl V0 (c_rotQ _ 12 (by decide)) ?_
 refine At.wp (some 66) (P_nilCheck rfl rfl) ?_
 refine At.wqn ?_
 refine At.wt rfl ?_
 refine At.p (some 67) (P_indexAddr_arr1 rfl Tryd.underlying107 sz71 rfl rfl rfl (by omega)) ?_
 refine At.s (S_storeM none (f := u32V) (k := 0) rfl rfl rfl sz71 rfl rfl rfl WD ?_)
 refine At.nil ?_
 refine At.next ?_
 refine At.seq ?_
 refine At.draws 12 [] [.q false [0, 1, 2, 3, 4, 5, 6, 7, 8, 9, 10, 11]] (by kernel_rfl) (by kernel_rfl) ?_
 refine At.wp (some 68) (P_move rfl rfl) ?_
 refine At.wp (some 69) (P_move rfl rfl) ?_
 refine At.wp (some 70) (P_nilCheck rfl rfl) ?_
 refine At.wp (some 71) (P_indexAddr_arr1 rfl Tryd.underlying107 sz71 rfl rfl rfl (by omega)) ?_
 refine At.wq (some 72) (Q_loadM (k := 0) (0#32) rfl rfl Tryd.underlying71 rfl rfl WD) ?_
 refine At.wp (some 73) (P_move rfl rfl) ?_
 refine At.wp (some 74) (P_move rfl rfl) ?_
 refine At.wp (some 75) (P_nilCheck rfl rfl) ?_
 refine At.wp (some 76) (P_indexAddr_arr1 rfl Tryd.underlying107 sz71 rfl rfl rfl (by omega)) ?_
 refine At.wq (some 77) (Q_loadM (k := 0) (0#32) rfl rfl Tryd.underlying71 rfl rfl WD) ?_
 refine At.wp (some 78) (P_add_w UK.u32 rfl rfl rfl) ?_
 refine At.wp (some 79) (P_nilCheck rfl rfl) ?_
 refine At.wqn ?_
 refine At.wt rfl ?_
 refine At.p (some 80) (P_indexAddr_arr1 rfl Tryd.underlying107 sz71 rfl rfl rfl (by omega)) ?_
 refine At.s (S_storeM none (f := u32V) (k := 0) rfl rfl rfl sz71 rfl rfl rfl WD ?_)
 refine At.nil ?_
 refine At.next ?_
 refine At.seq ?_
 refine At.draws 15 [] [.q false [0, 1, 2, 3, 4, 5, 6, 7, 8, 9, 10, 11, 12, 13, 14]] (by kernel_rfl) (by kernel_rfl) ?_
 refine At.wp (some 81) (P_move rfl rfl) ?_
 refine At.wp (some 82) (P_move rfl rfl) ?_
 refine At.wp (some 83) (P_move rfl rfl) ?_
 refine At.wp (some 84) (P_move rfl rfl) ?_
 refine At.wp (some 85) (P_nilCheck rfl rfl) ?_
 refine At.wp (some 86) (P_indexAddr_arr1 rfl Tryd.underlying107 sz71 rfl rfl rfl (by omega)) ?_
 refine At.wq (some 87) (Q_loadM (k := 0) (0#32) rfl rfl Tryd.underlying71 rfl rfl WD) ?_
 refine At.wp (some 88) (P_move rfl rfl) ?_
 refine At.wp (some 89) (P_move rfl rfl) ?_
 refine At.wp (some 90) (P_nilCheck rfl rfl) ?_
 refine At.wp (some 91) (P_indexAddr_arr1 rfl Tryd.underlying107 sz71 rfl rfl rfl (by omega)) ?_
 refine At.wq (some 92) (Q_loadM (k := 0) (0#32) rfl rfl Tryd.underlying71 rfl rfl WD) ?_
 refine At.wp (some 93) (P_xor_w UK.u32 rfl rfl rfl) ?_
 refine At.wcV (some 94) [] (vs := [_, _]) rfl en71 rfl V0 (c_rotQ _ 8 (by decide)) ?_
 refine At.wp (some 95) (P_nilCheck rfl rfl) ?_
 refine At.wqn ?_
 refine At.wt rfl ?_
 refine At.p (some 96) (P_indexAddr_arr1 rfl Tryd.underlying107 sz71 rfl rfl rfl (by omega)) ?_
 refine At.s (S_storeM none (f := u32V) (k := 0) rfl rfl rfl sz71 rfl rfl rfl WD ?_)
 refine At.nil ?_
 refine At.next ?_
 refine At.seq ?_
 refine At.draws 12 [] [.q false [0, 1, 2, 3, 4, 5, 6, 7, 8, 9, 10, 11]] (by kernel_rfl) (by kernel_rfl) ?_
 refine At.wp (some 97) (P_move rfl rfl) ?_
 refine At.wp (some 98) (P_move rfl rfl) ?_
 refine At.wp (some 99) (P_nilCheck rfl rfl) ?_
 refine At.wp (some 100) (P_indexAddr_arr1 rfl Tryd.underlying107 sz71 rfl rfl rfl (by omega)) ?_
 refine At.wq (some 101) (Q_loadM (k := 0) (0#32) rfl rfl Tryd.underlying71 rfl rfl WD) ?_
 refine At.wp (some 102) (P_move rfl rfl) ?_
 refine At.wp (some 103) (P_move rfl rfl) ?_
 refine At.wp (some 104) (P_nilCheck rfl rfl) ?_
 refine At.wp (some 105) (P_indexAddr_arr1 rfl Tryd.underlying107 sz71 rfl rfl rfl (by omega)) ?_
 refine At.wq (some 106) (Q_loadM (k := 0) (0#32) rfl rfl Tryd.underlying71 rfl rfl WD) ?_
 refine At.wp (some 107) (P_add_w UK.u32 rfl rfl rfl) ?_
 refine At.wp (some 108) (P_nilCheck rfl rfl) ?_
 refine At.wqn ?_
 refine At.wt rfl ?_
 refine At.p (some 109) (P_indexAddr_arr1 rfl Tryd.underlying107 sz71 rfl rfl rfl (by omega)) ?_
 refine At.s (S_storeM none (f := u32V) (k := 0) rfl rfl rfl sz71 rfl rfl rfl WD ?_)
 refine At.nil ?_
 refine At.next ?_
 refine At.draws 15 [] [.q false [0, 1, 2, 3, 4, 5, 6, 7, 8, 9, 10, 11, 12, 13, 14]] (by kernel_rfl) (by kernel_rfl) ?_
 refine At.wp (some 110) (P_move rfl rfl) ?_
 refine At.wp (some 111) (P_move rfl rfl) ?_
 refine At.wp (some 112) (P_move rfl rfl) ?_
 refine At.wp (some 113) (P_move rfl rfl) ?_
 refine At.wp (some 114) (P_nilCheck rfl rfl) ?_
 refine At.wp (some 115) (P_indexAddr_arr1 rfl Tryd.underlying107 sz71 rfl rfl rfl (by omega)) ?_
 refine At.wq (some 116) (Q_loadM (k := 0) (0#32) rfl rfl Tryd.underlying71 rfl rfl WD) ?_
 refine At.wp (some 117) (P_move rfl rfl) ?_
 refine At.wp (some 118) (P_move rfl rfl) ?_
 refine At.wp (some 119) (P_nilCheck rfl rfl) ?_
 refine At.wp (some 120) (P_indexAddr_arr1 rfl Tryd.underlying107 sz71 rfl rfl rfl (by omega)) ?_
 refine At.wq (some 121) (Q_loadM (k := 0) (0#32) rfl rfl Tryd.underlying71 rfl rfl WD) ?_
 refine At.wp (some 122) (P_xor_w UK.u32 rfl rfl rfl) ?_
 refine At.wcV (some 123) [] (vs := [_, _]) rfl en71 rfl V0 (c_rotQ _ 7 (by decide)) ?_
 refine At.wp (some 124) (P_nilCheck rfl rfl) ?_
 refine At.wqn ?_
 refine At.wt rfl ?_
 refine At.p (some 125) (P_indexAddr_arr1 rfl Tryd.underlying107 sz71 rfl rfl rfl (by omega)) ?_
 refine At.s (S_storeM none (f := u32V) (k := 0) rfl rfl rfl sz71 rfl rfl rfl WD ?_)
 refine At.nil ?_
 refine At.give (.inr rfl) [0] (rows' := [_]) (vs := []) rfl trivial rfl (by simp) (by simp) ⟨rfl, rfl⟩

theorem c_mixQ (s : List (BitVec 32)) (hs : s.length = 16) (b0 : Nat) :
  Con Tryd.prog 60 [ptr b0 0] [⟨true, b0, 0, 107, s.map u32V, 0⟩] (fun v rs => v = .tuple #[] ∧ rs = [⟨true, b0, 0, 107, (mixS s).map u32V, 0⟩]) := by
 refine Con.enter Tryd.func60 Tryd.ntmps60 (Nat.le_of_ble_eq_true rfl) rfl fun w => ?_
 refine At.seq ?_
 refine At.seq ?_
 refine At.region ?_
 refine At.p (some 3) (P_move rfl rfl) ?_
 refine At.nil ?_
 refine At.next ?_
 refine At.block ?_
 refine At.loopx (I := fun m fr H => ∃ i, m = 4 - i ∧ fr = frOf [(0, ptr b0 0), (3, iV (i : Int))] ∧ H = hOf [(0, ⟨true, b0, 0, 107, (rndS 0 i s).map u32V, 0⟩)] ∧ i ≤ 4) ?_ ?_
 ·
  intro Kc0 hKc0
  refine At.to [(0, _), (3, _)] [(0, _)] (AllL.cons_ (rfl) (AllL.cons_ (rfl) trivial)) (AllL.cons_ (rfl) trivial) ?_
  exact hKc0 _ _ _ ⟨0, rfl, rfl, rfl, by omega⟩
 ·
  rintro m fr H ⟨i, rfl, rfl, rfl, hi⟩ Kc0 hKc0
  refine At.seq ?_
  refine At.region ?_
  refine At.p (some 4) (P_cmp rfl rfl rfl rfl rfl rfl) ?_
  refine At.nil ?_
  refine At.next ?_
  refine At.seq ?_
  refine At.cond rfl (fun h4 => ?_) (fun h4 => ?_)
  · -- cond 4 t
   have hlt : i < 4 := by simp at h4; omega
   refine At.skip ?_
   refine At.next ?_
   refine At.seq ?_
   refine At.block ?_
   refine At.seq ?_
   refine At.region ?_
   refine At.p (some 5) (P_move rfl rfl) ?_
   refine At.p (some 2) (P_assign rfl rfl) ?_
   refine At.nil ?_
   refine At.next ?_
   refine At.region ?_
   refine At.p (some 6) (P_move rfl rfl) ?_
   refine At.p (some 7) (P_move rfl rfl) ?_
   refine At.p (some 8) (P_move rfl rfl) ?_
   refine At.p (some 9) (P_add_i rfl rfl rfl (by omega)) ?_
   refine At.p (some 10) (P_move rfl rfl) ?_
   refine At.p (some 11) (P_add_i rfl rfl rfl (by omega)) ?_
   refine At.p (some 12) (P_move rfl rfl) ?_
   refine At.p (some 13) (P_add_i rfl rfl rfl (by omega)) ?_
   refine At.s (S_callR (some 14) [(0, _)] [] [0] (vs := [_, _, _, _, _]) rfl en72 rfl (ON rfl rfl O0) (by simp) V0 (by simp) (c_quarter _ (by rw [rndS_len]; exact hs) _ i (4 + i) (8 + i) (12 + i) (by omega) (by omega) (by omega) (by omega)) (by rintro _ _ ⟨rfl, rfl⟩; rfl) ?_)
   rintro _ _ ⟨rfl, rfl⟩
   refine At.nil ?_
   refine At.inb_n ?_
   refine At.next ?_
   refine At.region ?_
   refine At.p (some 15) (P_add_i rfl rfl rfl (by omega)) ?_
   refine At.p (some 3) (P_move rfl rfl) ?_
   refine At.nil ?_
   refine At.next ?_
   refine At.to [(0, _), (3, _)] [(0, ⟨true, b0, 0, 107, (rndS 0 (i + 1) s).map u32V, 0⟩)] (AllL.cons_ (rfl) (AllL.cons_ (rfl) trivial)) (AllL.cons_ (congrArg some (by simp [rndS, Nat.mod_eq_of_lt hlt])) trivial) ?_
   exact hKc0 _ _ _ (by omega) ⟨i + 1, rfl, rfl, rfl, by omega⟩
  · -- cond 4 f
   obtain rfl : i = 4 := by simp at h4; omega
   refine At.exit ?_
   refine At.thn_e ?_
   refine At.thn_e ?_
   refine At.inb_hit ?_
   refine At.next ?_
   refine At.seq ?_
   refine At.region ?_
   refine At.p (some 16) (P_move rfl rfl) ?_
   refine At.s (S_callR (some 17) [(0, _)] [] [0] (vs := [_, _, _, _, _]) rfl en72 rfl (ON rfl rfl O0) (by simp) V0 (by simp) (c_quarter _ (by simp [qS_len, rndS_len, hs]) _ 0 5 10 15 (by decide) (by decide) (by decide) (by decide)) (by rintro _ _ ⟨rfl, rfl⟩; rfl) ?_)
   rintro _ _ ⟨rfl, rfl⟩
   refine At.nil ?_
   refine At.next ?_
   refine At.seq ?_
   refine At.region ?_
   refine At.p (some 18) (P_move rfl rfl) ?_
   refine At.s (S_callR (some 19) [(0, _)] [] [0] (vs := [_, _, _, _, _]) rfl en72 rfl (ON rfl rfl O0) (by simp) V0 (by simp) (c_quarter _ (by simp [qS_len, rndS_len, hs]) _ 1 6 11 12 (by decide) (by decide) (by decide) (by decide)) (by rintro _ _ ⟨rfl, rfl⟩; rfl) ?_)
   rintro _ _ ⟨rfl, rfl⟩
   refine At.nil ?_
   refine At.next ?_
   refine At.seq ?_
   refine At.region ?_
   refine At.p (some 20) (P_move rfl rfl) ?_
   refine At.s (S_callR (some 21) [(0, _)] [] [0] (vs := [_, _, _, _, _]) rfl en72 rfl (ON rfl rfl O0) (by simp) V0 (by simp) (c_quarter _ (by simp [qS_len, rndS_len, hs]) _ 2 7 8 13 (by decide) (by decide) (by decide) (by decide)) (by rintro _ _ ⟨rfl, rfl⟩; rfl) ?_)
   rintro _ _ ⟨rfl, rfl⟩
   refine At.nil ?_
   refine At.next ?_
   refine At.region ?_
   refine At.p (some 22) (P_move rfl rfl) ?_
   refine At.s (S_callR (some 23) [(0, _)] [] [0] (vs := [_, _, _, _, _]) rfl en72 rfl (ON rfl rfl O0) (by simp) V0 (by simp) (c_quarter _ (by simp [qS_len, rndS_len, hs]) _ 3 4 9 14 (by decide) (by decide) (by decide) (by decide)) (by rintro _ _ ⟨rfl, rfl⟩; rfl) ?_)
   rintro _ _ ⟨rfl, rfl⟩
   refine At.nil ?_
   refine At.give (.inr rfl) [0] (rows' := [_]) (vs := []) rfl trivial rfl (by simp) (by simp) ⟨rfl, rfl⟩

theorem c_words (A : Option Addr) (l : List (BitVec 8)) (ca bq q : Nat) (hA : 0 < l.length → A = some ⟨bq, q, none⟩) (hca : l.length ≤ ca) (hl : ca ≤ 100000000) :
  Con Tryd.prog 59 [.slice A l.length ca] [bytesRow bq q l] (fun v rs => ∃ A2 b2 c2, (0 < c2 → A2 = some ⟨b2, 0, none⟩) ∧ (wordsOf l).length ≤ c2 ∧ v = .slice A2 (wordsOf l).length c2 ∧ rs = [⟨true, b2, 0, 71, (wordsOf l).map u32V, c2 - (wordsOf l).length⟩]) := by
 refine Con.enterM Tryd.func59 Tryd.ntmps59 (Nat.le_of_ble_eq_true rfl) rfl fun w hS => ?_
 refine At.seq ?_
 refine At.region ?_
 refine At.p (some 2) (P_assign rfl rfl) ?_
 refine At.nil ?_
 refine At.next ?_
 refine At.seq ?_
 refine At.region ?_
 refine At.s (S_alloc (some 3) 3 rfl ze83 rfl (fun b3 => ?_))
 refine At.nil ?_
 refine At.next ?_
 refine At.seq ?_
 refine At.seq ?_
 refine At.region ?_
 refine At.p (some 8) (P_move rfl rfl) ?_
 refine At.empty 4 0 71 ?_
 refine At.s (S_callV (some 9) [] [5, 6] (vs := [_, _]) rfl en45 rfl V0 (by simp) (c_Chunk A l.length ca 4 (by decide)) (by rintro _ _ ⟨bs, bn, rfl, rfl⟩; rfl) ?_)
 rintro _ _ ⟨bs, bn, rfl, rfl⟩
 refine At.nil ?_
 refine At.next ?_
 refine At.block ?_
 refine At.to [(3, ptr b3 0), (9, _)] [(0, _), (3, _), (4, _), (5, _), (6, _)] (AllL.cons_ (rfl) (AllL.cons_ (rfl) trivial)) (AllL.cons_ (rfl) (AllL.cons_ (rfl) (AllL.cons_ (rfl) (AllL.cons_ (rfl) (AllL.cons_ (rfl) trivial))))) ?_
 refine At.range (C2 bs bn (.slice A l.length ca) (iV ((4 : Nat) : Int))) (it_Chunk A l.length ca 4 bs bn (by decide) hca (by omega) (by decide)) (fun i H => ∃ A2 b2 c2, H = hOf [(0, bytesRow bq q l), (3, ⟨true, b3, 0, 83, [.slice A2 i c2], 0⟩), (4, ⟨true, b2, 0, 71, (wordsTo l i).map u32V, c2 - i⟩), (5, ⟨true, bs, 0, 36, [.slice A l.length ca], 0⟩), (6, ⟨true, bn, 0, 3, [iV ((4 : Nat) : Int)], 0⟩)] ∧ ((0 < c2 → A2 = some ⟨b2, 0, none⟩) ∧ i ≤ c2)) (fun H => False) (fun x => frOf [(3, ptr b3 0), (4, x)]) rfl en58 rfl hS ?_ ?_ ?_ ?_ ?_ ?_
 ·
  rintro i _ w ⟨A2, b2, c2, rfl, hA2, hc2⟩ hc hh
  exact ⟨hh.cell hc (k := 5) (j := 0) rfl rfl, hh.cell hc (k := 6) (j := 0) rfl rfl⟩
 · exact ⟨none, 0, 0, rfl, by simp, by simp⟩
 ·
  intro lR nR wbR XR x H' K hKa
  refine At.regionR (fun ⟨_, _, h⟩ => h) ?_
  refine At.p (some 4) (P_assign rfl rfl) ?_
  refine At.nil ?_
  refine At.next ?_
  exact At.toF [(3, _), (4, _)] (AllL.cons_ (rfl) (AllL.cons_ (rfl) trivial)) hKa
 ·
  rintro lR nR wbR XR i x _ hx ⟨A2, b2, c2, rfl, hA2, hc2⟩ Q' hK hR hno
  obtain ⟨hlt, rfl⟩ := chunksV_some (by decide) hx
  refine At.blockR ?_
  refine At.seqR ?_
  refine At.regionR (fun ⟨a, w, h⟩ => hno a w h) ?_
  refine At.p (some 5) (P_assign rfl rfl) ?_
  refine At.nil ?_
  refine At.next ?_
  refine At.seqR ?_
  refine At.seqR ?_
  refine At.regionR (fun ⟨a, w, h⟩ => hno a w h) ?_
  refine At.p (some 11) (P_move rfl rfl) ?_
  refine At.p (some 12) (P_len_sl rfl rfl ⟨_, Tryd.underlying36⟩ rfl) ?_
  refine At.p (some 13) (P_move rfl rfl) ?_
  refine At.nil ?_
  refine At.next ?_
  refine At.blockR ?_
  refine At.loopxR (I := fun m fr H => ∃ j, m = min 4 (l.length - i * 4) - j ∧ fr = frOf [(3, ptr b3 0), (5, u32V (leW l (i * 4) j)), (11, chunkV A l.length 4 i), (12, iV ((min 4 (l.length - i * 4) : Nat) : Int)), (13, iV (j : Int))] ∧ H = hOf [(0, bytesRow bq q l), (3, ⟨true, b3, 0, 83, [.slice A2 i c2], 0⟩), (4, ⟨true, b2, 0, 71, (wordsTo l i).map u32V, c2 - i⟩), (5, ⟨true, bs, 0, 36, [.slice A l.length ca], 0⟩), (6, ⟨true, bn, 0, 3, [iV ((4 : Nat) : Int)], 0⟩)] ∧ j ≤ min 4 (l.length - i * 4)) ?_ ?_
  ·
   intro Kc0 hKc0
   refine At.to [(3, _), (5, _), (11, _), (12, _), (13, _)] [(0, _), (3, _), (4, _), (5, _), (6, _)] (AllL.cons_ (rfl) (AllL.cons_ (rfl) (AllL.cons_ (rfl) (AllL.cons_ (rfl) (AllL.cons_ (rfl) trivial))))) (AllL.cons_ (rfl) (AllL.cons_ (rfl) (AllL.cons_ (rfl) (AllL.cons_ (rfl) (AllL.cons_ (rfl) trivial))))) ?_
   exact hKc0 _ _ _ ⟨0, rfl, rfl, rfl, by omega⟩
  ·
   rintro m fr H ⟨j, rfl, rfl, rfl, hj⟩ Kc0 hKc0
   refine At.seqR ?_
   refine At.regionR (fun ⟨a, w, h⟩ => hno a w h) ?_
   refine At.p (some 14) (P_cmp rfl rfl rfl rfl rfl rfl) ?_
   refine At.nil ?_
   refine At.next ?_
   refine At.seqR ?_
   refine At.condR rfl (fun h14 => ?_) (fun h14 => ?_)
   · -- cond 14 t
    have hlt2 : j < min 4 (l.length - i * 4) := by simp at h14; omega
    refine At.skipR ?_
    refine At.next ?_
    refine At.seqR ?_
    refine At.blockR ?_
    refine At.seqR ?_
    refine At.regionR (fun ⟨a, w, h⟩ => hno a w h) ?_
    refine At.p (some 15) (P_move rfl rfl) ?_
    refine At.p (some 16) (P_indexAddr_sl1 rfl Tryd.underlying36 sz5 rfl (chunk_addr (hA (by omega)) _) rfl rfl (by omega)) ?_
    refine At.q (some 17) (Q_loadR (l := l) (k := 0) (j := i * 4 + j) (0#8) rfl rfl Tryd.underlying5 rfl rfl (by omega) (by omega)) ?_
    refine At.p (some 6) (P_assign rfl rfl) ?_
    refine At.p (some 7) (P_assign rfl rfl) ?_
    refine At.nil ?_
    refine At.next ?_
    refine At.regionR (fun ⟨a, w, h⟩ => hno a w h) ?_
    refine At.p (some 18) (P_move rfl rfl) ?_
    refine At.p (some 19) (P_move rfl rfl) ?_
    refine At.p (some 20) (P_conv_ww UK.u32 (m := 8) rfl Tryd.underlying5 Tryd.underlying71 rfl) ?_
    refine At.p (some 21) (P_move rfl rfl) ?_
    refine At.p (some 22) (P_mul_i rfl rfl rfl (by omega)) ?_
    refine At.p (some 23) (P_shl_w UK.u32 (n := 32) rfl rfl rfl (by first | decide | omega)) ?_
    refine At.p (some 24) (P_or_w UK.u32 rfl rfl rfl) ?_
    refine At.p (some 5) (P_assign rfl rfl) ?_
    refine At.nil ?_
    refine At.inb_n ?_
    refine At.next ?_
    refine At.regionR (fun ⟨a, w, h⟩ => hno a w h) ?_
    refine At.p (some 25) (P_add_i rfl rfl rfl (by omega)) ?_
    refine At.p (some 13) (P_move rfl rfl) ?_
    refine At.nil ?_
    refine At.next ?_
    refine At.to [(3, _), (5, u32V (leW l (i * 4) (j + 1))), (11, _), (12, _), (13, _)] [(0, _), (3, _), (4, _), (5, _), (6, _)] (AllL.cons_ (rfl) (AllL.cons_ (by rw [show u32V (leW l (i * 4) (j + 1)) = _ from congrArg u32V (show leW l (i * 4) (j + 1) = leW l (i * 4) j ||| ((l.getD (i * 4 + j) 0#8).setWidth 32) <<< (8 * (j : Int)).toNat from by rw [show (8 * (j : Int)).toNat = 8 * j by omega]; rfl)]; rfl) (AllL.cons_ (rfl) (AllL.cons_ (rfl) (AllL.cons_ (rfl) trivial))))) (AllL.cons_ (rfl) (AllL.cons_ (rfl) (AllL.cons_ (rfl) (AllL.cons_ (rfl) (AllL.cons_ (rfl) trivial))))) ?_
    exact hKc0 _ _ _ (by omega) ⟨j + 1, rfl, rfl, rfl, by omega⟩
   · -- cond 14 f
    obtain rfl : j = min 4 (l.length - i * 4) := by simp at h14; omega
    refine At.exitR ?_
    refine At.thn_e ?_
    refine At.thn_e ?_
    refine At.inb_hit ?_
    refine At.next ?_
    refine At.regionR (fun ⟨a, w, h⟩ => hno a w h) ?_
    refine At.q (some 26) (Q_loadO (k := 3) rfl rfl Tryd.underlying83 rfl rfl rfl) ?_
    refine At.p (some 27) (P_move rfl rfl) ?_
    refine At.s (S_buildSliceV (some 28) 7 [u32V (wordAt l i)] rfl Tryd.underlying83 sz71 ze71 rfl rfl (by decide) (by decide) rfl rfl (fun b7 => ?_))
    refine At.s (S_appendM (some 29) 4 (wordsTo l (i + 1)) (f := u32V) (l := wordsTo l i) (L := [wordAt l i]) rfl Tryd.underlying83 Tryd.underlying83 (.inr ⟨_, rfl⟩) sz71 by71 ze71 rfl rfl (fun h => ⟨hA2 h, rfl⟩) (wordsTo_len _ _) (by omega) (Src.row (k := 7) (j := 0) rfl (fun _ => rfl) (fun _ => ⟨rfl, rfl, rfl⟩) rfl rfl) (fun _ => rfl) WD WD (wordsTo_succ _ _) rfl ?_)
    intro A3 b3' c3 g1 g2
    refine At.s (S_store none (k := 3) rfl rfl rfl sz83 rfl rfl rfl WD ?_)
    refine At.nil ?_
    refine At.inb_n ?_
    refine At.toH [(0, _), (3, ⟨true, b3, 0, 83, [.slice A3 (i + 1) c3], 0⟩), (4, ⟨true, b3', 0, 71, (wordsTo l (i + 1)).map u32V, c3 - (i + 1)⟩), (5, _), (6, _)] (AllL.cons_ (rfl) (AllL.cons_ (by rw [wordsTo_len]; rfl) (AllL.cons_ (by rw [wordsTo_len]; rfl) (AllL.cons_ (rfl) (AllL.cons_ (rfl) trivial))))) ?_
    exact hK _ _ ⟨A3, b3', c3, rfl, g1, by rw [wordsTo_len] at g2; exact g2⟩
 ·
  rintro D w1 hX hD _ ⟨A2, b2, c2, rfl, hA2, hc2⟩
  have hm : (chunksV A l.length 4).length = (l.length + 4 - 1) / 4 := chunksV_len
  generalize (chunksV A l.length 4).length = m at *
  subst hm
  refine At.inb_n ?_
  refine At.next ?_
  refine At.seq ?_
  refine At.region ?_
  refine At.q (some 30) (Q_loadO (k := 3) rfl rfl Tryd.underlying83 rfl rfl rfl) ?_
  refine At.p (some 2) (P_assign rfl rfl) ?_
  refine At.nil ?_
  refine At.next ?_
  refine At.ret ?_
  refine At.giveM hX hD (.inl rfl) [4] (rows' := [_]) (ResV.tmps (vs := [_]) rfl ⟨rfl, trivial⟩) rfl (by simp) (by simp) ?_
  exact ⟨A2, b2, c2, hA2, by rw [wordsOf, wordsTo_len]; exact hc2, by rw [wordsOf, wordsTo_len]; rfl, by rw [wordsOf, wordsTo_len]⟩
 ·
  intro D w1 hX hD H' hr
  exact hr.elim

theorem c_wordsN {A : Option Addr} {l : List (BitVec 8)} {n ca bq q : Nat} (hn : l.length = n) (hA : 0 < n → A = some ⟨bq, q, none⟩) (hca : n ≤ ca) (hl : ca ≤ 100000000) :
  Con Tryd.prog 59 [.slice A n ca] [bytesRow bq q l] (fun v rs => ∃ A2 b2 c2, (0 < c2 → A2 = some ⟨b2, 0, none⟩) ∧ (wordsOf l).length ≤ c2 ∧ v = .slice A2 (wordsOf l).length c2 ∧ rs = [⟨true, b2, 0, 71, (wordsOf l).map u32V, c2 - (wordsOf l).length⟩]) := by
 subst hn
 exact c_words A l ca bq q hA hca hl
theorem wordsOf_len (l : List (BitVec 8)) : (wordsOf l).length = (l.length + 4 - 1) / 4 := by rw [wordsOf, wordsTo_len]
theorem initS_len {key nonce : List (BitVec 8)} (c : BitVec 32) (hk : key.length = 32) (hn : nonce.length = 12) : (initS key c nonce).length = 16 := by
 simp only [initS, List.length_append, wordsOf_len, hk, hn, List.length_cons, List.length_nil]
 decide

theorem c_Block (key nonce : List (BitVec 8)) (count : BitVec 32) (hkey : key.length = 32) (hnonce : nonce.length = 12) :
  Con Tryd.prog 46 [aggB key, u32V count, aggB nonce] [] (fun v rs => v = aggB (blockS key count nonce) ∧ rs = []) := by
 refine Con.enter Tryd.func46 Tryd.ntmps46 (Nat.le_of_ble_eq_true rfl) rfl fun w => ?_
 refine At.seq ?_
 have hI := initS_len count hkey hnonce
 refine At.region ?_
 refine At.s (S_box (some 3) 3 (zs := key.map u8V) rfl rfl rfl (fun b3 => ?_))
 refine At.s (S_box (some 5) 5 (zs := nonce.map u8V) rfl rfl rfl (fun b5 => ?_))
 refine At.s (S_alloc (some 6) 6 (zs := (List.replicate 64 0#8).map u8V) rfl ze90 rfl (fun b6 => ?_))
 refine At.nil ?_
 refine At.next ?_
 refine At.seq ?_
 refine At.region ?_
 refine At.s (S_alloc (some 7) 7 (zs := (List.replicate 16 0#32).map u32V) rfl ze107 rfl (fun b7 => ?_))
 refine At.nil ?_
 refine At.next ?_
 refine At.seq ?_
 refine At.draws 4 [1, 2] [.q true [3], .e false 0, .e true 1, .e true 2] (by kernel_rfl) (by kernel_rfl) ?_
 refine At.wp (some 15) (P_slice_arr1 rfl Tryd.underlying22 sz5 rfl rfl rfl rfl (by omega) (by omega) (by omega) (by omega)) ?_
 refine At.wqn ?_
 refine At.we ?_
 refine S_buildSliceV (some 12) 10 [_, _, _, _, _, _, _, _, _, _, _, _, _, _, _, _] rfl Tryd.underlying36 sz5 ze5 rfl rfl (by decide) (by decide) rfl ⟨rfl, rfl, rfl, rfl, rfl, rfl, rfl, rfl, rfl, rfl, rfl, rfl, rfl, rfl, rfl, rfl⟩ (fun b10 => ?_)
 refine At.we ?_
 refine S_convB (some 13) (k := 10) rfl Tryd.underlying36 Tryd.underlying5 rfl rfl (by simp) ?_
 refine At.we ?_
 refine SStep.up (S_callV (some 14) [(10, _)] [11] (vs := [_]) rfl en59 rfl (VN (by simp) rfl View.all V0) (by simp) (c_wordsN (l := expandB) (bq := b10) (q := 0) rfl (fun _ => rfl) (by decide) (by decide)) (by rintro _ _ ⟨A14, q14, c14, g14a, g14b, rfl, rfl⟩; rfl) ?_)
 rintro _ _ ⟨A14, q14, c14, g14a, g14b, rfl, rfl⟩
 refine At.wt rfl ?_
 refine At.s (S_callV (some 16) [(3, _)] [12] (vs := [_]) rfl en59 rfl (VN (by simp) rfl View.all V0) (by simp) (c_wordsN (l := key) (bq := b3) (q := 0) hkey (fun _ => rfl) (by decide) (by decide)) (by rintro _ _ ⟨A16, q16, c16, g16a, g16b, rfl, rfl⟩; rfl) ?_)
 rintro _ _ ⟨A16, q16, c16, g16a, g16b, rfl, rfl⟩
 refine At.s (S_appendM (some 17) 11 (wordsOf expandB ++ wordsOf key) (f := u32V) (l := wordsOf expandB) (L := wordsOf key) rfl Tryd.underlying83 Tryd.underlying83 (.inr ⟨_, rfl⟩) sz71 by71 ze71 rfl rfl (fun h => ⟨g14a h, rfl⟩) rfl (by omega) (Src.row (k := 12) (j := 0) rfl (fun h => g16a (by omega)) (fun _ => ⟨rfl, rfl, rfl⟩) (by simp [List.take_of_length_le]) (by simp)) (fun _ => rfl) (by simp only [wordsOf_len, List.length_append, hkey, hnonce, List.length_cons, List.length_nil]; decide) (by simp only [wordsOf_len, List.length_append, hkey, hnonce, List.length_cons, List.length_nil]; decide) rfl rfl ?_)
 intro A17 q17 c17 g17a g17b
 refine At.p (some 8) (P_assign rfl rfl) ?_
 refine At.nil ?_
 refine At.next ?_
 refine At.seq ?_
 refine At.draws 8 [4, 6, 7] [.q true [0, 1, 2, 5], .e false 3, .e true 4, .e true 6, .e true 7] (by kernel_rfl) (by kernel_rfl) ?_
 refine At.wp (some 18) (P_slice_arr1 rfl Tryd.underlying107 sz71 rfl rfl rfl rfl (by omega) (by omega) (by omega) (by omega)) ?_
 refine At.wp (some 19) (P_move rfl rfl) ?_
 refine At.wp (some 20) (P_move rfl rfl) ?_
 refine At.wp (some 23) (P_slice_arr1 rfl Tryd.underlying39 sz5 rfl rfl rfl rfl (by omega) (by omega) (by omega) (by omega)) ?_
 refine At.wqn ?_
 refine At.we ?_
 refine S_buildSliceV (some 21) 13 [_] rfl Tryd.underlying83 sz71 ze71 rfl rfl (by decide) (by decide) rfl rfl (fun b13 => ?_)
 refine At.we ?_
 refine S_appendM (some 22) 11 (wordsOf expandB ++ wordsOf key ++ [count]) (f := u32V) (l := wordsOf expandB ++ wordsOf key) (L := [count]) rfl Tryd.underlying83 Tryd.underlying83 (.inr ⟨_, rfl⟩) sz71 by71 ze71 rfl rfl (fun h => ⟨g17a h, rfl⟩) rfl (by omega) (Src.row (k := 13) (j := 0) rfl (fun _ => rfl) (fun _ => ⟨rfl, rfl, rfl⟩) rfl rfl) (fun _ => rfl) (by simp only [wordsOf_len, List.length_append, hkey, hnonce, List.length_cons, List.length_nil]; decide) (by simp only [wordsOf_len, List.length_append, hkey, hnonce, List.length_cons, List.length_nil]; decide) rfl rfl ?_
 intro A22 q22 c22 g22a g22b
 refine At.we ?_
 refine SStep.up (S_callV (some 24) [(5, _)] [15] (vs := [_]) rfl en59 rfl (VN (by simp) rfl View.all V0) (by simp) (c_wordsN (l := nonce) (bq := b5) (q := 0) hnonce (fun _ => rfl) (by decide) (by decide)) (by rintro _ _ ⟨A24, q24, c24, g24a, g24b, rfl, rfl⟩; rfl) ?_)
 rintro _ _ ⟨A24, q24, c24, g24a, g24b, rfl, rfl⟩
 refine At.we ?_
 refine S_appendM (some 25) 11 (initS key count nonce) (f := u32V) (l := wordsOf expandB ++ wordsOf key ++ [count]) (L := wordsOf nonce) rfl Tryd.underlying83 Tryd.underlying83 (.inr ⟨_, rfl⟩) sz71 by71 ze71 rfl rfl (fun h => ⟨g22a h, rfl⟩) rfl (by omega) (Src.row (k := 15) (j := 0) rfl (fun h => g24a (by omega)) (fun _ => ⟨rfl, rfl, rfl⟩) (by simp [List.take_of_length_le]) (by simp)) (fun _ => rfl) (by simp only [wordsOf_len, List.length_append, hkey, hnonce, List.length_cons, List.length_nil]; decide) (by simp only [wordsOf_len, List.length_append, hkey, hnonce, List.length_cons, List.length_nil]; decide) rfl rfl ?_
 intro A25 q25 c25 g25a g25b
 refine At.wt rfl ?_
 refine At.s (S_copyM (some 26) 7 11 (j := 0) (n := 16) (L := initS key count nonce) (p := 0) (m := (initS key count nonce).length) rfl Tryd.underlying83 sz71 rfl (fun _ => rfl) rfl rfl (fun h => g25a (by omega)) (fun h => ⟨rfl, rfl, rfl⟩) (by rw [List.drop_zero, List.take_of_length_le (by rw [List.length_map, hI]; exact Nat.le_refl _)]) (by rw [hI]; rfl) hI (fun _ => rfl) (by decide) ?_)
 rw [splice_all _ _ (by rw [hI]; rfl)]
 refine At.nil ?_
 refine At.next ?_
 refine At.seq ?_
 refine At.region ?_
 refine At.q (some 27) (Q_loadA (k := 7) rfl rfl Tryd.underlying107 rfl sz107 WD rfl) ?_
 refine At.s (S_alloc (some 9) 9 (zs := (List.replicate 16 0#32).map u32V) rfl ze107 rfl (fun b9 => ?_))
 refine At.s (S_storeA none (k := 9) (vs := _) rfl rfl rfl (by first | (rw [sz107]; simp <;> omega) | exact sz107) rfl WA WB rfl WC ?_)
 refine At.nil ?_
 refine At.next ?_
 refine At.seq ?_
 refine At.seq ?_
 refine At.region ?_
 refine At.p (some 28) (P_move rfl rfl) ?_
 refine At.nil ?_
 refine At.next ?_
 refine At.block ?_
 refine At.loopx (I := fun m fr H => ∃ i, m = 10 - i ∧ fr = frOf [(6, ptr b6 0), (7, ptr b7 0), (9, ptr b9 0), (28, iV (i : Int))] ∧ H = hOf [(6, ⟨true, b6, 0, 90, (List.replicate 64 0#8).map u8V, 0⟩), (7, ⟨true, b7, 0, 107, (mixN i (initS key count nonce)).map u32V, 0⟩), (9, ⟨true, b9, 0, 107, (initS key count nonce).map u32V, 0⟩)] ∧ i ≤ 10) ?_ ?_
 ·
  intro Kc0 hKc0
  refine At.to [(6, _), (7, _), (9, _), (28, _)] [(6, _), (7, _), (9, _)] (AllL.cons_ (rfl) (AllL.cons_ (rfl) (AllL.cons_ (rfl) (AllL.cons_ (rfl) trivial)))) (AllL.cons_ (rfl) (AllL.cons_ (rfl) (AllL.cons_ (rfl) trivial))) ?_
  exact hKc0 _ _ _ ⟨0, rfl, rfl, rfl, by omega⟩
 ·
  rintro m fr H ⟨i, rfl, rfl, rfl, hi⟩ Kc0 hKc0
  refine At.seq ?_
  refine At.region ?_
  refine At.p (some 29) (P_cmp rfl rfl rfl rfl rfl rfl) ?_
  refine At.nil ?_
  refine At.next ?_
  refine At.seq ?_
  refine At.cond rfl (fun h29 => ?_) (fun h29 => ?_)
  · -- cond 29 t
   have hlt : i < 10 := by simp at h29; omega
   refine At.skip ?_
   refine At.next ?_
   refine At.seq ?_
   refine At.block ?_
   refine At.region ?_
   refine At.s (S_callR (some 30) [(7, _)] [] [7] (vs := [_]) rfl en60 rfl (ON rfl rfl O0) (by simp) V0 (by simp) (c_mixQ _ (by rw [mixN_len]; exact hI) _) (by rintro _ _ ⟨rfl, rfl⟩; rfl) ?_)
   rintro _ _ ⟨rfl, rfl⟩
   refine At.nil ?_
   refine At.inb_n ?_
   refine At.next ?_
   refine At.region ?_
   refine At.p (some 31) (P_add_i rfl rfl rfl (by omega)) ?_
   refine At.p (some 28) (P_move rfl rfl) ?_
   refine At.nil ?_
   refine At.next ?_
   refine At.to [(6, _), (7, _), (9, _), (28, _)] [(6, _), (7, _), (9, _)] (AllL.cons_ (rfl) (AllL.cons_ (rfl) (AllL.cons_ (rfl) (AllL.cons_ (rfl) trivial)))) (AllL.cons_ (rfl) (AllL.cons_ (rfl) (AllL.cons_ (rfl) trivial))) ?_
   exact hKc0 _ _ _ (by omega) ⟨i + 1, rfl, rfl, rfl, by omega⟩
  · -- cond 29 f
   obtain rfl : i = 10 := by simp at h29; omega
   refine At.exit ?_
   refine At.thn_e ?_
   refine At.thn_e ?_
   refine At.inb_hit ?_
   refine At.next ?_
   refine At.seq ?_
   refine At.region ?_
   refine At.s (S_alloc (some 10) 20 (zs := (outTo (mixN 10 (initS key count nonce)) (initS key count nonce) 0).map u8V) rfl ze90 rfl (fun b20 => ?_))
   refine At.nil ?_
   refine At.next ?_
   refine At.seq ?_
   refine At.seq ?_
   refine At.region ?_
   refine At.p (some 32) (P_move rfl rfl) ?_
   refine At.nil ?_
   refine At.next ?_
   refine At.block ?_
   refine At.loopx (I := fun m fr H => ∃ i, m = 64 - i ∧ fr = frOf [(6, ptr b6 0), (7, ptr b7 0), (9, ptr b9 0), (10, ptr b20 0), (32, iV (i : Int))] ∧ H = hOf [(6, ⟨true, b6, 0, 90, (List.replicate 64 0#8).map u8V, 0⟩), (7, ⟨true, b7, 0, 107, (mixN 10 (initS key count nonce)).map u32V, 0⟩), (9, ⟨true, b9, 0, 107, (initS key count nonce).map u32V, 0⟩), (20, ⟨true, b20, 0, 90, (outTo (mixN 10 (initS key count nonce)) (initS key count nonce) i).map u8V, 0⟩)] ∧ i ≤ 64) ?_ ?_
   ·
    intro Kc1 hKc1
    refine At.to [(6, _), (7, _), (9, _), (10, _), (32, _)] [(6, _), (7, _), (9, _), (20, _)] (AllL.cons_ (rfl) (AllL.cons_ (rfl) (AllL.cons_ (rfl) (AllL.cons_ (rfl) (AllL.cons_ (rfl) trivial))))) (AllL.cons_ (rfl) (AllL.cons_ (rfl) (AllL.cons_ (rfl) (AllL.cons_ (rfl) trivial)))) ?_
    exact hKc1 _ _ _ ⟨0, rfl, rfl, rfl, by omega⟩
   ·
    rintro m fr H ⟨i, rfl, rfl, rfl, hi⟩ Kc1 hKc1
    refine At.seq ?_
    refine At.region ?_
    refine At.p (some 33) (P_cmp rfl rfl rfl rfl rfl rfl) ?_
    refine At.nil ?_
    refine At.next ?_
    refine At.seq ?_
    refine At.cond rfl (fun h33 => ?_) (fun h33 => ?_)
    · -- cond 33 t
     have hlt : i < 64 := by simp at h33; omega
     refine At.skip ?_
     refine At.next ?_
     refine At.seq ?_
     refine At.block ?_
     refine At.seq ?_
     refine At.region ?_
     refine At.p (some 34) (P_move rfl rfl) ?_
     refine At.p (some 11) (P_assign rfl rfl) ?_
     refine At.nil ?_
     refine At.next ?_
     have hI2 : (mixN 10 (initS key count nonce)).length = 16 := by rw [mixN_len]; exact hI
     have hO : (outTo (mixN 10 (initS key count nonce)) (initS key count nonce) i).length = 64 := outTo_len hi
     refine At.draws 15 [] [.q false [0, 1, 2, 3, 4, 5, 6, 7, 8, 9, 10, 11, 12, 13, 14]] (by kernel_rfl) (by kernel_rfl) ?_
     refine At.wp (some 35) (P_move rfl rfl) ?_
     refine At.wp (some 36) (P_move rfl rfl) ?_
     refine At.wp (some 37) (P_quo_i rfl rfl rfl (by omega) (by omega) (by first | decide | omega)) ?_
     refine At.wp (some 38) (P_indexAddr_arr1 (j := i / 4) rfl Tryd.underlying107 sz71 rfl rfl (by omega) (by omega)) ?_
     refine At.wq (some 39) (Q_loadM (k := 7) (0#32) rfl rfl Tryd.underlying71 rfl rfl WD) ?_
     refine At.wp (some 40) (P_move rfl rfl) ?_
     refine At.wp (some 41) (P_quo_i rfl rfl rfl (by omega) (by omega) (by first | decide | omega)) ?_
     refine At.wp (some 42) (P_indexAddr_arr1 (j := i / 4) rfl Tryd.underlying107 sz71 rfl rfl (by omega) (by omega)) ?_
     refine At.wq (some 43) (Q_loadM (k := 9) (0#32) rfl rfl Tryd.underlying71 rfl rfl WD) ?_
     refine At.wp (some 44) (P_add_w UK.u32 rfl rfl rfl) ?_
     refine At.wp (some 45) (P_move rfl rfl) ?_
     refine At.wp (some 46) (P_rem_i rfl rfl rfl (by omega) (by first | decide | omega)) ?_
     refine At.wp (some 47) (P_mul_i rfl rfl rfl (by omega)) ?_
     refine At.wp (some 48) (P_shr_w UK.u32 (n := 32) rfl rfl rfl (by first | decide | omega)) ?_
     refine At.wp (some 49) (P_conv_ww UK.u8 (m := 32) rfl Tryd.underlying71 Tryd.underlying5 rfl) ?_
     refine At.wqn ?_
     refine At.wt rfl ?_
     refine At.p (some 50) (P_indexAddr_arr1 rfl Tryd.underlying90 sz5 rfl rfl rfl (by omega)) ?_
     refine At.s (S_storeM none (f := u8V) (k := 20) rfl rfl rfl sz5 rfl rfl rfl WD ?_)
     refine At.nil ?_
     refine At.inb_n ?_
     refine At.next ?_
     refine At.region ?_
     refine At.p (some 51) (P_add_i rfl rfl rfl (by omega)) ?_
     refine At.p (some 32) (P_move rfl rfl) ?_
     refine At.nil ?_
     refine At.next ?_
     refine At.to [(6, _), (7, _), (9, _), (10, _), (32, _)] [(6, _), (7, _), (9, _), (20, ⟨true, b20, 0, 90, (outTo (mixN 10 (initS key count nonce)) (initS key count nonce) (i + 1)).map u8V, 0⟩)] (AllL.cons_ (rfl) (AllL.cons_ (rfl) (AllL.cons_ (rfl) (AllL.cons_ (rfl) (AllL.cons_ (rfl) trivial))))) (AllL.cons_ (rfl) (AllL.cons_ (rfl) (AllL.cons_ (rfl) (AllL.cons_ (congrArg (fun l => some (⟨true, b20, 0, 90, List.map u8V l, 0⟩ : Row)) (by rw [← outTo_set hlt, show (8 * ((i : Int) % 4)).toNat = 8 * (i % 4) by omega]; rfl)) trivial)))) ?_
     exact hKc1 _ _ _ (by omega) ⟨i + 1, rfl, rfl, rfl, by omega⟩
    · -- cond 33 f
     obtain rfl : i = 64 := by simp at h33; omega
     have hO : (outTo (mixN 10 (initS key count nonce)) (initS key count nonce) 64).length = 64 := outTo_len hi
     refine At.exit ?_
     refine At.thn_e ?_
     refine At.thn_e ?_
     refine At.inb_hit ?_
     refine At.next ?_
     refine At.seq ?_
     refine At.region ?_
     refine At.q (some 52) (Q_loadA (k := 20) rfl rfl Tryd.underlying90 rfl sz90 WD rfl) ?_
     refine At.s (S_storeA none (k := 6) (vs := _) rfl rfl rfl (by first | (rw [sz90]; simp <;> omega) | exact sz90) rfl WA WB rfl WC ?_)
     refine At.nil ?_
     refine At.next ?_
     refine At.ret ?_
     refine At.giveV (.inl rfl) [] (rows' := []) (ResV.cellA (k := 6) rfl rfl Tryd.underlying90 rfl sz90 ((List.length_map u8V).trans hO) rfl) rfl (by simp) (by simp) ?_
     exact ⟨by simp [outTo, blockS, aggB], rfl⟩

def hC (B : List (BitVec 8)) (w : Nat) : Nat → BitVec 64
 | 0 => 0#64
 | r + 1 => hC B w r * 256#64 + (B.getD (4 * w + (3 - r)) 0#8).setWidth 64
def keyAt (key : List (BitVec 8)) (count : BitVec 32) (nonce : List (BitVec 8)) (m : Nat) : BitVec 8 := (blockS key (count + BitVec.ofNat 32 (m / 64)) nonce).getD (m % 64) 0#8
def strTo (l : List (BitVec 8)) (K : Nat → BitVec 8) (m : Nat) : List (BitVec 8) := (List.range m).map (fun j => l.getD j 0#8 ^^^ K j) ++ l.drop m
theorem strTo_len {l : List (BitVec 8)} {K : Nat → BitVec 8} {m : Nat} (h : m ≤ l.length) : (strTo l K m).length = l.length := by simp [strTo]; omega
theorem strTo_0 (l : List (BitVec 8)) (K : Nat → BitVec 8) : strTo l K 0 = l := by simp [strTo]
theorem strTo_at {l : List (BitVec 8)} {K : Nat → BitVec 8} {m : Nat} (h : m < l.length) : (strTo l K m).getD m 0#8 = l.getD m 0#8 := by
 simp [strTo, List.getD_eq_getElem?_getD, List.getElem?_append_right]
theorem strTo_set {l : List (BitVec 8)} {K : Nat → BitVec 8} {m : Nat} (h : m < l.length) : (strTo l K m).set m ((strTo l K m).getD m 0#8 ^^^ K m) = strTo l K (m + 1) := by
 rw [strTo_at h]
 unfold strTo
 rw [List.set_append_right _ _ (by simp)]
 simp only [List.length_map, List.length_range, Nat.sub_self]
 rw [List.drop_eq_getElem_cons h, List.set_cons_zero, List.range_succ]
 simp
def streamS (key : List (BitVec 8)) (count : BitVec 32) (nonce l : List (BitVec 8)) : List (BitVec 8) := (List.range l.length).map fun j => l.getD j 0#8 ^^^ keyAt key count nonce j
theorem streamS_len (key : List (BitVec 8)) (count : BitVec 32) (nonce l : List (BitVec 8)) : (streamS key count nonce l).length = l.length := by simp [streamS]
theorem strTo_all (key : List (BitVec 8)) (count : BitVec 32) (nonce l : List (BitVec 8)) {m : Nat} (h : m = l.length) : strTo l (keyAt key count nonce) m = streamS key count nonce l := by
 subst h
 simp [strTo, streamS]
theorem keyAt_chunk (key : List (BitVec 8)) (count : BitVec 32) (nonce : List (BitVec 8)) {i j : Nat} (hj : j < 64) : keyAt key count nonce (i * 64 + j) = (blockS key (count + BitVec.ofNat 32 i) nonce).getD j 0#8 := by
 unfold keyAt
 rw [show (i * 64 + j) / 64 = i by omega, show (i * 64 + j) % 64 = j by omega]

theorem c_CloneB (A : Option Addr) (n c bq q s0 s1 : Nat) (cs : List Value) (hA : 0 < n → A = some ⟨bq, q, none⟩) (hl : cs.length = n * 1) (h1 : ∀ u ∈ cs, u.oneCell' = true) (hn : n ≤ 1000000) :
  Con Tryd.prog 44 [.slice A n c] [⟨false, bq, q, s0, cs, s1⟩] (fun v rs => ∃ A' b' c', (0 < c' → A' = some ⟨b', 0, none⟩) ∧ n ≤ c' ∧ v = .slice A' n c' ∧ rs = [⟨true, b', 0, 5, cs, (c' - n) * 1⟩]) := by
 refine Con.enter Tryd.func44 Tryd.ntmps44 (Nat.le_of_ble_eq_true rfl) rfl fun w => ?_
 refine At.seq ?_
 refine At.region ?_
 refine At.p (some 2) (P_assign rfl rfl) ?_
 refine At.nil ?_
 refine At.next ?_
 refine At.seq ?_
 refine At.seq ?_
 refine At.region ?_
 refine At.p (some 3) (P_move rfl rfl) ?_
 refine At.p (some 4) (P_eql_slnil rfl Tryd.underlying36 rfl rfl) ?_
 refine At.nil ?_
 refine At.next ?_
 refine At.cond rfl (fun h4 => ?_) (fun h4 => ?_)
 · -- cond 4 t
  refine At.seq ?_
  refine At.region ?_
  refine At.p (some 2) (P_assign rfl rfl) ?_
  refine At.nil ?_
  refine At.next ?_
  refine At.ret ?_
  refine At.thn_r ?_
  have hn : n = 0 := Nat.eq_zero_of_not_pos (fun h => by have h2 := hA h; subst h2; cases h4)
  have hc : cs = [] := List.eq_nil_of_length_eq_zero (by simp [hl, hn])
  subst hn hc
  refine At.empty 1 0 5 ?_
  refine At.give (.inl rfl) [1] (rows' := [_]) (vs := [_]) rfl ⟨rfl, trivial⟩ rfl (by simp) (by simp) ⟨none, 0, 0, by simp, by simp, rfl, rfl⟩
 · -- cond 4 f
  refine At.skip ?_
  refine At.next ?_
  refine At.seq ?_
  refine At.region ?_
  refine At.s (S_buildSlice0 (some 5) 1 rfl Tryd.underlying36 sz5 (fun b1 => ?_))
  refine At.p (some 6) (P_move rfl rfl) ?_
  refine At.s (S_appendN (some 7) 1 n cs (cells := []) (rest := 0) (b := b1) rfl Tryd.underlying36 Tryd.underlying36 (.inr ⟨_, rfl⟩) sz5 by5 ze5 rfl rfl (fun h => absurd h (by omega)) rfl rfl (by omega) (Src.row (k := 0)  (b := bq) (q := q) rfl hA (fun _ => ⟨rfl, rfl, rfl⟩) (by rw [List.drop_zero, ← hl, List.take_length]) hl) h1 (by decide) (by omega) (by omega) (by omega) rfl ?_)
  intro A1 b1 c1 g1 g2
  refine At.p (some 2) (P_assign rfl rfl) ?_
  refine At.nil ?_
  refine At.next ?_
  refine At.ret ?_
  refine At.give (.inl rfl) [1] (rows' := [_]) (vs := [_]) rfl ⟨rfl, trivial⟩ rfl (by simp) (by simp) ⟨A1, b1, c1, g1, g2, rfl, rfl⟩

theorem c_Stream (key nonce l : List (BitVec 8)) (count : BitVec 32) (A : Option Addr) (ca bq q : Nat) (hkey : key.length = 32) (hnonce : nonce.length = 12) (hA : 0 < l.length → A = some ⟨bq, q, none⟩) (hl : l.length ≤ 1000000) :
  Con Tryd.prog 33 [aggB key, u32V count, aggB nonce, .slice A l.length ca] [bytesRow bq q l] (fun v rs => ∃ A2 b2 c2, (0 < c2 → A2 = some ⟨b2, 0, none⟩) ∧ l.length ≤ c2 ∧ v = .slice A2 l.length c2 ∧ rs = [⟨true, b2, 0, 5, (streamS key count nonce l).map u8V, c2 - l.length⟩]) := by
 refine Con.enterM Tryd.func33 Tryd.ntmps33 (Nat.le_of_ble_eq_true rfl) rfl fun w hS => ?_
 refine At.seq ?_
 have hk32 : key.length = 32 := hkey
 refine At.region ?_
 refine At.s (S_box (some 4) 4 (zs := key.map u8V) rfl rfl rfl (fun b4 => ?_))
 refine At.s (S_box (some 5) 5 rfl rfl rfl (fun b5 => ?_))
 refine At.s (S_box (some 6) 6 (zs := nonce.map u8V) rfl rfl rfl (fun b6 => ?_))
 refine At.p (some 8) (P_assign rfl rfl) ?_
 refine At.nil ?_
 refine At.next ?_
 refine At.seq ?_
 refine At.region ?_
 refine At.p (some 13) (P_move rfl rfl) ?_
 refine At.s (S_callV (some 14) [(0, _)] [7] (vs := [_]) rfl en44 rfl (VN (by simp) rfl View.all V0) (by simp) (c_CloneB A l.length ca bq q 0 0 (l.map u8V) hA (by simp) (by intro u hu; obtain ⟨z, _, rfl⟩ := List.mem_map.1 hu; rfl) hl) (by rintro _ _ ⟨A7, b7, c7, g7a, g7b, rfl, rfl⟩; rfl) ?_)
 rintro _ _ ⟨A7, b7, c7, g7a, g7b, rfl, rfl⟩
 refine At.p (some 9) (P_assign rfl rfl) ?_
 refine At.nil ?_
 refine At.next ?_
 refine At.seq ?_
 refine At.seq ?_
 refine At.region ?_
 refine At.p (some 15) (P_move rfl rfl) ?_
 refine At.s (S_callV (some 16) [] [8, 9] (vs := [_, _]) rfl en45 rfl V0 (by simp) (c_Chunk A7 l.length c7 64 (by decide)) (by rintro _ _ ⟨bs, bn, rfl, rfl⟩; rfl) ?_)
 rintro _ _ ⟨bs, bn, rfl, rfl⟩
 refine At.nil ?_
 refine At.next ?_
 refine At.block ?_
 refine At.to [(4, ptr b4 0), (5, ptr b5 0), (6, ptr b6 0), (9, .slice A7 l.length c7), (16, _)] [(4, _), (5, ⟨true, b5, 0, 71, [u32V (count + BitVec.ofNat 32 0)], 0⟩), (6, _), (7, ⟨true, b7, 0, 5, (strTo l (keyAt key count nonce) (min (0 * 64) l.length)).map u8V, (c7 - l.length) * 1⟩), (8, _), (9, _)] (AllL.cons_ (rfl) (AllL.cons_ (rfl) (AllL.cons_ (rfl) (AllL.cons_ (rfl) (AllL.cons_ (rfl) trivial))))) (AllL.cons_ (rfl) (AllL.cons_ (by rw [show count + BitVec.ofNat 32 0 = count from BitVec.add_zero _]; rfl) (AllL.cons_ (rfl) (AllL.cons_ (by rw [Nat.zero_mul, Nat.zero_min, strTo_0]; rfl) (AllL.cons_ (rfl) (AllL.cons_ (rfl) trivial)))))) ?_
 refine At.range (C2 bs bn (.slice A7 l.length c7) (iV ((64 : Nat) : Int))) (it_Chunk A7 l.length c7 64 bs bn (by decide) g7b (by omega) (by decide)) (fun i H => ∃ _u : Unit, H = hOf [(4, ⟨true, b4, 0, 22, key.map u8V, 0⟩), (5, ⟨true, b5, 0, 71, [u32V (count + BitVec.ofNat 32 i)], 0⟩), (6, ⟨true, b6, 0, 39, nonce.map u8V, 0⟩), (7, ⟨true, b7, 0, 5, (strTo l (keyAt key count nonce) (min (i * 64) l.length)).map u8V, (c7 - l.length) * 1⟩), (8, ⟨true, bs, 0, 36, [.slice A7 l.length c7], 0⟩), (9, ⟨true, bn, 0, 3, [iV ((64 : Nat) : Int)], 0⟩)] ∧ True) (fun H => False) (fun x => frOf [(4, ptr b4 0), (5, ptr b5 0), (6, ptr b6 0), (10, x)]) rfl en58 rfl hS ?_ ?_ ?_ ?_ ?_ ?_
 ·
  rintro i _ w ⟨_u, rfl, _⟩ hc hh
  exact ⟨hh.cell hc (k := 8) (j := 0) rfl rfl, hh.cell hc (k := 9) (j := 0) rfl rfl⟩
 · exact ⟨(), rfl, trivial⟩
 ·
  intro lR nR wbR XR x H' K hKa
  refine At.regionR (fun ⟨_, _, h⟩ => h) ?_
  refine At.p (some 10) (P_assign rfl rfl) ?_
  refine At.nil ?_
  refine At.next ?_
  exact At.toF [(4, _), (5, _), (6, _), (10, _)] (AllL.cons_ (rfl) (AllL.cons_ (rfl) (AllL.cons_ (rfl) (AllL.cons_ (rfl) trivial)))) hKa
 ·
  rintro lR nR wbR XR i x _ hx ⟨_u, rfl, _⟩ Q' hK hR hno
  obtain ⟨hlt, rfl⟩ := chunksV_some (by decide) hx
  have hbl := blockS_len key (count + BitVec.ofNat 32 i) nonce
  refine At.blockR ?_
  refine At.seqR ?_
  refine At.regionR (fun ⟨a, w, h⟩ => hno a w h) ?_
  refine At.q (some 18) (Q_loadA (k := 4) rfl rfl Tryd.underlying22 rfl sz22 WD rfl) ?_
  refine At.q (some 19) (Q_loadO (k := 5) rfl rfl Tryd.underlying71 rfl rfl rfl) ?_
  refine At.q (some 20) (Q_loadA (k := 6) rfl rfl Tryd.underlying39 rfl sz39 WD rfl) ?_
  refine At.s (S_callV (some 21) [] [] (vs := [_, _, _]) rfl en46 rfl V0 (by simp) (c_Block key nonce (count + BitVec.ofNat 32 i) hkey hnonce) (by rintro _ _ ⟨rfl, rfl⟩; rfl) ?_)
  rintro _ _ ⟨rfl, rfl⟩
  refine At.s (S_alloc (some 11) 10 (zs := (List.replicate 64 0#8).map u8V) rfl ze90 rfl (fun b10 => ?_))
  refine At.s (S_storeA none (k := 10) (vs := _) rfl rfl rfl (by first | (rw [sz90]; simp <;> omega) | exact sz90) rfl WA WB rfl WC ?_)
  refine At.nil ?_
  refine At.next ?_
  refine At.seqR ?_
  refine At.seqR ?_
  refine At.regionR (fun ⟨a, w, h⟩ => hno a w h) ?_
  refine At.p (some 22) (P_move rfl rfl) ?_
  refine At.p (some 23) (P_len_sl rfl rfl ⟨_, Tryd.underlying36⟩ rfl) ?_
  refine At.p (some 24) (P_move rfl rfl) ?_
  refine At.nil ?_
  refine At.next ?_
  refine At.blockR ?_
  refine At.loopxR (I := fun m fr H => ∃ j, m = min 64 (l.length - i * 64) - j ∧ fr = frOf [(4, ptr b4 0), (5, ptr b5 0), (6, ptr b6 0), (10, chunkV A7 l.length 64 i), (11, ptr b10 0), (23, iV ((min 64 (l.length - i * 64) : Nat) : Int)), (24, iV (j : Int))] ∧ H = hOf [(4, ⟨true, b4, 0, 22, key.map u8V, 0⟩), (5, ⟨true, b5, 0, 71, [u32V (count + BitVec.ofNat 32 i)], 0⟩), (6, ⟨true, b6, 0, 39, nonce.map u8V, 0⟩), (7, ⟨true, b7, 0, 5, (strTo l (keyAt key count nonce) (i * 64 + j)).map u8V, (c7 - l.length) * 1⟩), (8, ⟨true, bs, 0, 36, [.slice A7 l.length c7], 0⟩), (9, ⟨true, bn, 0, 3, [iV ((64 : Nat) : Int)], 0⟩), (10, ⟨true, b10, 0, 90, (blockS key (count + BitVec.ofNat 32 i) nonce).map u8V, 0⟩)] ∧ j ≤ min 64 (l.length - i * 64)) ?_ ?_
  ·
   intro Kc0 hKc0
   refine At.to [(4, _), (5, _), (6, _), (10, _), (11, _), (23, _), (24, _)] [(4, _), (5, _), (6, _), (7, ⟨true, b7, 0, 5, (strTo l (keyAt key count nonce) (i * 64 + 0)).map u8V, (c7 - l.length) * 1⟩), (8, _), (9, _), (10, _)] (AllL.cons_ (rfl) (AllL.cons_ (rfl) (AllL.cons_ (rfl) (AllL.cons_ (rfl) (AllL.cons_ (rfl) (AllL.cons_ (rfl) (AllL.cons_ (rfl) trivial))))))) (AllL.cons_ (rfl) (AllL.cons_ (rfl) (AllL.cons_ (rfl) (AllL.cons_ (by rw [show i * 64 + 0 = min (i * 64) l.length by omega]; rfl) (AllL.cons_ (rfl) (AllL.cons_ (rfl) (AllL.cons_ (rfl) trivial))))))) ?_
   exact hKc0 _ _ _ ⟨0, rfl, rfl, rfl, by omega⟩
  ·
   rintro m fr H ⟨j, rfl, rfl, rfl, hj⟩ Kc0 hKc0
   refine At.seqR ?_
   refine At.regionR (fun ⟨a, w, h⟩ => hno a w h) ?_
   refine At.p (some 25) (P_cmp rfl rfl rfl rfl rfl rfl) ?_
   refine At.nil ?_
   refine At.next ?_
   refine At.seqR ?_
   refine At.condR rfl (fun h25 => ?_) (fun h25 => ?_)
   · -- cond 25 t
    have hlt2 : j < min 64 (l.length - i * 64) := by simp at h25; omega
    have hsl : (strTo l (keyAt key count nonce) (i * 64 + j)).length = l.length := strTo_len (by omega)
    refine At.skipR ?_
    refine At.next ?_
    refine At.seqR ?_
    refine At.blockR ?_
    refine At.seqR ?_
    refine At.regionR (fun ⟨a, w, h⟩ => hno a w h) ?_
    refine At.p (some 26) (P_move rfl rfl) ?_
    refine At.p (some 12) (P_assign rfl rfl) ?_
    refine At.nil ?_
    refine At.next ?_
    refine At.drawsR 7 [] [.q false [0, 1, 2, 3, 4, 5, 6]] (by kernel_rfl) (by kernel_rfl) (fun ⟨a, w, h⟩ => hno a w h) ?_
    refine At.wp (some 27) (P_move rfl rfl) ?_
    refine At.wp (some 28) (P_move rfl rfl) ?_
    refine At.wp (some 29) (P_indexAddr_sl1 rfl Tryd.underlying36 sz5 rfl (chunk_addr0 (g7a (by omega)) _) rfl rfl (by omega)) ?_
    refine At.wq (some 30) (Q_loadM (k := 7) (0#8) rfl rfl Tryd.underlying5 rfl rfl WD) ?_
    refine At.wp (some 31) (P_move rfl rfl) ?_
    refine At.wp (some 32) (P_indexAddr_arr1 rfl Tryd.underlying90 sz5 rfl rfl rfl (by omega)) ?_
    refine At.wq (some 33) (Q_loadM (k := 10) (0#8) rfl rfl Tryd.underlying5 rfl rfl WD) ?_
    refine At.wqn ?_
    refine At.wt rfl ?_
    refine At.p (some 34) (P_xor_w UK.u8 rfl rfl rfl) ?_
    refine At.p (some 35) (P_indexAddr_sl1 rfl Tryd.underlying36 sz5 rfl (chunk_addr0 (g7a (by omega)) _) rfl rfl (by omega)) ?_
    refine At.s (S_storeM none (f := u8V) (k := 7) rfl rfl rfl sz5 rfl rfl rfl WD ?_)
    refine At.nil ?_
    refine At.inb_n ?_
    refine At.next ?_
    refine At.regionR (fun ⟨a, w, h⟩ => hno a w h) ?_
    refine At.p (some 36) (P_add_i rfl rfl rfl (by omega)) ?_
    refine At.p (some 24) (P_move rfl rfl) ?_
    refine At.nil ?_
    refine At.next ?_
    refine At.to [(4, _), (5, _), (6, _), (10, _), (11, _), (23, _), (24, _)] [(4, _), (5, _), (6, _), (7, ⟨true, b7, 0, 5, (strTo l (keyAt key count nonce) (i * 64 + (j + 1))).map u8V, (c7 - l.length) * 1⟩), (8, _), (9, _), (10, _)] (AllL.cons_ (rfl) (AllL.cons_ (rfl) (AllL.cons_ (rfl) (AllL.cons_ (rfl) (AllL.cons_ (rfl) (AllL.cons_ (rfl) (AllL.cons_ (rfl) trivial))))))) (AllL.cons_ (rfl) (AllL.cons_ (rfl) (AllL.cons_ (rfl) (AllL.cons_ (congrArg (fun z => some (⟨true, b7, 0, 5, List.map u8V z, (c7 - l.length) * 1⟩ : Row)) (by rw [← keyAt_chunk key count nonce (show j < 64 by omega), strTo_set (by omega)]; rfl)) (AllL.cons_ (rfl) (AllL.cons_ (rfl) (AllL.cons_ (rfl) trivial))))))) ?_
    exact hKc0 _ _ _ (by omega) ⟨j + 1, rfl, rfl, rfl, by omega⟩
   · -- cond 25 f
    obtain rfl : j = min 64 (l.length - i * 64) := by simp at h25; omega
    refine At.exitR ?_
    refine At.thn_e ?_
    refine At.thn_e ?_
    refine At.inb_hit ?_
    refine At.next ?_
    refine At.regionR (fun ⟨a, w, h⟩ => hno a w h) ?_
    refine At.q (some 37) (Q_loadO (k := 5) rfl rfl Tryd.underlying71 rfl rfl rfl) ?_
    refine At.p (some 38) (P_add_w UK.u32 (b := 1#32) rfl rfl rfl) ?_
    refine At.s (S_store none (k := 5) rfl rfl rfl sz71 rfl rfl rfl WD ?_)
    refine At.nil ?_
    refine At.inb_n ?_
    refine At.toH [(4, _), (5, ⟨true, b5, 0, 71, [u32V (count + BitVec.ofNat 32 (i + 1))], 0⟩), (6, _), (7, ⟨true, b7, 0, 5, (strTo l (keyAt key count nonce) (min ((i + 1) * 64) l.length)).map u8V, (c7 - l.length) * 1⟩), (8, _), (9, _)] (AllL.cons_ (rfl) (AllL.cons_ (by rw [show count + BitVec.ofNat 32 (i + 1) = count + BitVec.ofNat 32 i + 1#32 by rw [BitVec.add_assoc, BitVec.ofNat_add]]; rfl) (AllL.cons_ (rfl) (AllL.cons_ (by rw [show min ((i + 1) * 64) l.length = i * 64 + min 64 (l.length - i * 64) by omega]; rfl) (AllL.cons_ (rfl) (AllL.cons_ (rfl) trivial)))))) ?_
    exact hK _ _ ⟨(), rfl, trivial⟩
 ·
  rintro D w1 hX hD _ ⟨_u, rfl, _⟩
  have hm : min ((chunksV A7 l.length 64).length * 64) l.length = l.length := by rw [chunksV_len]; omega
  rw [hm, strTo_all key count nonce l rfl]
  refine At.inb_n ?_
  refine At.next ?_
  refine At.seq ?_
  refine At.region ?_
  refine At.p (some 39) (P_move rfl rfl) ?_
  refine At.p (some 8) (P_assign rfl rfl) ?_
  refine At.nil ?_
  refine At.next ?_
  refine At.ret ?_
  refine At.giveM hX hD (.inl rfl) [7] (rows' := [_]) (ResV.tmps (vs := [_]) rfl ⟨rfl, trivial⟩) rfl (by simp) (by simp) ?_
  exact ⟨A7, b7, c7, g7a, g7b, rfl, by rw [Nat.mul_one]⟩
 ·
  intro D w1 hX hD H' hr
  exact hr.elim

theorem c_StreamN {key nonce l : List (BitVec 8)} {count : BitVec 32} {A : Option Addr} {n ca bq q : Nat} (hn : l.length = n) (hkey : key.length = 32) (hnonce : nonce.length = 12) (hA : 0 < n → A = some ⟨bq, q, none⟩) (hl : n ≤ 1000000) :
  Con Tryd.prog 33 [aggB key, u32V count, aggB nonce, .slice A n ca] [bytesRow bq q l] (fun v rs => ∃ A2 b2 c2, (0 < c2 → A2 = some ⟨b2, 0, none⟩) ∧ n ≤ c2 ∧ v = .slice A2 n c2 ∧ rs = [⟨true, b2, 0, 5, (streamS key count nonce l).map u8V, c2 - n⟩]) := by
 subst hn
 exact c_Stream key nonce l count A ca bq q hkey hnonce hA hl
theorem stream_twice (key : List (BitVec 8)) (count : BitVec 32) (nonce l : List (BitVec 8)) : streamS key count nonce (streamS key count nonce l) = l := by
 apply List.ext_getElem (by simp [streamS_len])
 intro i h1 h2
 have h3 : i < (streamS key count nonce l).length := by simpa [streamS_len] using h2
 simp [streamS, h2]
 rw [BitVec.xor_assoc, BitVec.xor_self, BitVec.xor_zero]


end Go.Proofs.YtcjfkmhijfcciaaDoor

