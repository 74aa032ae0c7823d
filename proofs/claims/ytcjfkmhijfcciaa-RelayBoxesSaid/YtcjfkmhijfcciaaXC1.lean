import Derived.Test.YtcjfkmhijfcciaaXK1
import Derived.Test.YtcjfkmhijfcciaaSE11
import Derived.Test.YtcjfkmhijfcciaaSE33
namespace Go.Proofs.Ytcjfkmhijfcciaa
set_option maxRecDepth 20000
set_option linter.unusedVariables false
set_option linter.unusedSimpArgs false
open Go.SE Go.RowKit
theorem c_Chunk (p : Option Addr) (len cap k : Nat) (hk : 0 < k) :
  Con Try.prog 109 [.slice p len cap, iV (k : Int)] [] (fun v rs => ∃ bs bn, v = .func (.func 133) #[] #[ptr bs 0, ptr bn 0] ∧ rs = [⟨true, bs, 0, 23, [.slice p len cap], 0⟩, ⟨true, bn, 0, 3, [iV (k : Int)], 0⟩]) := by
 refine Con.enter Try.func109 Try.ntmps109 (Nat.le_of_ble_eq_true rfl) rfl fun w => ?_
 refine At.seq ?_
 refine At.region ?_
 refine At.s (S_box (some 2) 0 rfl rfl rfl (fun b0 => ?_))
 refine At.s (S_box (some 3) 1 rfl rfl rfl (fun b1 => ?_))
 refine At.p (some 4) (P_assign rfl rfl) ?_
 refine At.nil ?_
 refine At.next ?_
 refine At.seq ?_
 refine At.seq ?_
 refine At.region ?_
 refine At.q (some 5) (Q_loadO (k := 1) rfl rfl Try.underlying3 rfl rfl rfl) ?_
 refine At.p (some 6) (P_cmp rfl rfl rfl rfl rfl rfl) ?_
 refine At.nil ?_
 refine At.next ?_
 refine At.cond rfl (fun h6 => by simp at h6; omega) (fun h6 => ?_)
 refine At.skip ?_
 refine At.next ?_
 refine At.seq ?_
 refine At.region ?_
 refine At.p (some 8) (P_makeFunc (vs := [_, _]) rfl rfl) ?_
 refine At.p (some 4) (P_assign rfl rfl) ?_
 refine At.nil ?_
 refine At.next ?_
 refine At.ret ?_
 refine At.give (.inl rfl) [0, 1] (rows' := [_, _]) (vs := [_]) rfl ⟨rfl, trivial⟩ rfl (by simp) (by simp) ⟨b0, b1, rfl, rfl⟩

theorem it_Chunk (p : Option Addr) (len cap k bs bn : Nat) (hk : 0 < k) (hl : len ≤ cap) (hc : len ≤ 4611686018427387904) (hkc : k ≤ 4611686018427387904) :
  Iter Try.prog 133 [ptr bs 0, ptr bn 0] (chunksV p len k) (C2 bs bn (.slice p len cap) (iV (k : Int))) := by
 refine Iter.enter2 Try.func133 Try.ntmps133 (by decide) rfl fun l J Jx hI W h0 => ?_
 have hX := hI.belowX
 refine At.seq ?_
 refine At.region ?_
 refine At.p (some 4) (P_assign rfl rfl) ?_
 refine At.nil ?_
 refine At.next ?_
 refine At.block ?_
 refine At.to [(0, _), (1, _), (2, _), (4, iV ((0 * k : Nat) : Int))] [(0, _), (1, _)] (AllL.cons_ (rfl) (AllL.cons_ (rfl) (AllL.cons_ (rfl) (AllL.cons_ (by rw [Nat.zero_mul]; rfl) trivial)))) (AllL.cons_ (rfl) (AllL.cons_ (rfl) trivial)) ?_
 refine Iter.loop (xs := chunksV p len k) (J := J) (fun i => frOf [(0, .func (.yield l) #[] #[]), (1, ptr bs 0), (2, ptr bn 0), (4, iV ((i * k : Nat) : Int))]) (fun i hi W hJ K hK => ?_) h0
 rw [chunksV_len] at hi
 refine At.seq ?_
 refine At.seq ?_
 refine At.region ?_
 refine At.p (some 6) (P_move rfl rfl) ?_
 refine At.q (some 7) (Q_loadO (k := 0) rfl rfl Try.underlying23 rfl rfl rfl) ?_
 refine At.p (some 8) (P_len_sl rfl rfl ⟨_, Try.underlying23⟩ rfl) ?_
 refine At.p (some 9) (P_cmp rfl rfl rfl rfl rfl rfl) ?_
 refine At.nil ?_
 refine At.next ?_
 refine At.cond rfl (fun h9 => ?_) (fun h9 => ?_)
 · -- cond 9 t
  have hlt : i * k < len := by simp at h9; omega
  have hlt2 := (chunksV_at (p := p) hk hlt).2
  refine At.skip ?_
  refine At.next ?_
  refine At.seq ?_
  refine At.block ?_
  refine At.seq ?_
  refine At.draws 5 [] [.q false [0, 1, 2, 3, 4]] (by kernel_rfl) (by kernel_rfl) ?_
  refine At.wq (some 13) (Q_loadO (k := 1) rfl rfl Try.underlying3 rfl rfl rfl) ?_
  refine At.wq (some 14) (Q_loadO (k := 0) rfl rfl Try.underlying23 rfl rfl rfl) ?_
  refine At.wp (some 15) (P_move rfl rfl) ?_
  refine At.wp (some 16) (P_slice_sl (l := i * k) rfl Try.underlying23 sz5 rfl ⟨_, _, rfl, by omega⟩ rfl rfl (by omega) (by omega) (by omega)) ?_
  refine At.wp (some 17) (P_len_sl rfl rfl ⟨_, Try.underlying23⟩ rfl) ?_
  refine At.wqn ?_
  refine At.wt rfl ?_
  refine At.p (some 18) (P_min2 rfl rfl rfl rfl) ?_
  refine At.p (some 5) (P_assign rfl rfl) ?_
  refine At.nil ?_
  refine At.next ?_
  refine At.seq ?_
  refine At.regionYk 10 (fun ⟨_, _, h⟩ => by obtain ⟨⟨_, h⟩, _⟩ := h; cases h) ?_
  refine At.p (some 19) (P_move rfl rfl) ?_
  refine At.q (some 20) (Q_loadO (k := 0) rfl rfl Try.underlying23 rfl rfl rfl) ?_
  refine At.p (some 21) (P_move rfl rfl) ?_
  refine At.p (some 22) (P_move rfl rfl) ?_
  refine At.p (some 23) (P_move rfl rfl) ?_
  refine At.p (some 24) (P_add_i rfl rfl rfl (by omega)) ?_
  refine At.p (some 25) (P_move rfl rfl) ?_
  refine At.p (some 26) (P_move rfl rfl) ?_
  refine At.p (some 27) (P_add_i rfl rfl rfl (by omega)) ?_
  refine At.p (some 28) (P_slice_sl (l := i * k) (h := i * k + min k (len - i * k)) (m := i * k + min k (len - i * k)) rfl Try.underlying23 sz5 rfl ⟨_, _, rfl, by omega⟩ ⟨_, _, rfl, by omega⟩ ⟨_, _, rfl, by omega⟩ (by omega) (by omega) (by omega)) ?_
  refine At.nil ?_
  refine At.next ?_
  refine At.yld2 hI hJ (some 29) rfl rfl rfl (chunk_cut hk hlt) (fun B hB => ?_) (fun B hB => ?_)
  ·
   refine At.listI (fun ⟨_, _, h⟩ => by obtain ⟨⟨_, h⟩, _⟩ := h; cases h) ?_
   refine At.p (some 30) (P_not rfl rfl) ?_
   refine At.nil ?_
   refine At.next ?_
   refine At.cond rfl (fun h => absurd (h.symm.trans rfl) (by decide)) (fun _ => ?_)
   refine At.skip ?_
   refine At.inb_n ?_
   refine At.next ?_
   refine At.region ?_
   refine At.p (some 10) (P_move rfl rfl) ?_
   refine At.q (some 11) (Q_loadO (k := 1) rfl rfl Try.underlying3 rfl rfl rfl) ?_
   refine At.p (some 12) (P_add_i rfl rfl rfl (by omega)) ?_
   refine At.p (some 4) (P_assign rfl rfl) ?_
   refine At.nil ?_
   refine At.next ?_
   refine At.to [(0, _), (1, _), (2, _), (4, iV (((i + 1) * k : Nat) : Int))] [(0, _), (1, _)] (AllL.cons_ (rfl) (AllL.cons_ (rfl) (AllL.cons_ (rfl) (AllL.cons_ (by rw [Nat.add_mul, Nat.one_mul]; rfl) trivial)))) (AllL.cons_ (rfl) (AllL.cons_ (rfl) trivial)) ?_
   exact hK (by rw [chunksV_len]; exact hlt2) B hB
  ·
   refine At.listI (fun ⟨_, _, h⟩ => by obtain ⟨⟨_, h⟩, _⟩ := h; cases h) ?_
   refine At.p (some 30) (P_not rfl rfl) ?_
   refine At.nil ?_
   refine At.next ?_
   refine At.cond rfl (fun _ => ?_) (fun h => absurd (h.symm.trans rfl) (by decide))
   refine At.ret ?_
   refine At.inb_r ?_
   refine At.thn_r ?_
   refine At.thn_r ?_
   refine At.inb_r ?_
   refine At.done (rs := []) (vs := []) rfl rfl trivial (fun w hw _ => ⟨⟨_, rfl⟩, Or.inr ?_⟩)
   exact hX _ _ hB hw.below
 · -- cond 9 f
  have hge : len ≤ i * k := by simp at h9; omega
  refine At.exit ?_
  refine At.thn_e ?_
  refine At.thn_e ?_
  refine At.inb_hit ?_
  obtain rfl : i = (chunksV p len k).length := by rw [chunksV_len]; exact Nat.le_antisymm hi (chunksV_end hk hge)
  exact At.itEnd hI hJ rfl

def rotS (x : BitVec 32) (k : Nat) : BitVec 32 := x <<< k ||| x >>> (32 - k)
def leW (l : List (BitVec 8)) (o : Nat) : Nat → BitVec 32
 | 0 => 0#32
 | n + 1 => leW l o n ||| ((l.getD (o + n) 0#8).setWidth 32) <<< (8 * n)
def wordAt (l : List (BitVec 8)) (i : Nat) : BitVec 32 := leW l (i * 4) (min 4 (l.length - i * 4))
def wordsTo (l : List (BitVec 8)) (n : Nat) : List (BitVec 32) := (List.range n).map (wordAt l)
def wordsOf (l : List (BitVec 8)) : List (BitVec 32) := wordsTo l ((l.length + 4 - 1) / 4)
theorem wordsTo_len (l : List (BitVec 8)) (n : Nat) : (wordsTo l n).length = n := by simp [wordsTo]
theorem wordsTo_succ (l : List (BitVec 8)) (n : Nat) : wordsTo l n ++ [wordAt l n] = wordsTo l (n + 1) := by simp [wordsTo, List.range_succ]
def qS (s : List (BitVec 32)) (a b c d : Nat) : List (BitVec 32) :=
 let s := s.set a (s.getD a 0#32 + s.getD b 0#32)
 let s := s.set d (rotS (s.getD d 0#32 ^^^ s.getD a 0#32) 16)
 let s := s.set c (s.getD c 0#32 + s.getD d 0#32)
 let s := s.set b (rotS (s.getD b 0#32 ^^^ s.getD c 0#32) 12)
 let s := s.set a (s.getD a 0#32 + s.getD b 0#32)
 let s := s.set d (rotS (s.getD d 0#32 ^^^ s.getD a 0#32) 8)
 let s := s.set c (s.getD c 0#32 + s.getD d 0#32)
 s.set b (rotS (s.getD b 0#32 ^^^ s.getD c 0#32) 7)
theorem qS_len (s : List (BitVec 32)) (a b c d : Nat) : (qS s a b c d).length = s.length := by simp [qS]
def rndS (y : Nat) : Nat → List (BitVec 32) → List (BitVec 32)
 | 0, s => s
 | n + 1, s => qS (rndS y n s) n (4 + (n + y) % 4) (8 + (n + 2 * y) % 4) (12 + (n + 3 * y) % 4)
theorem rndS_len (y n : Nat) (s : List (BitVec 32)) : (rndS y n s).length = s.length := by
 induction n with
 | zero => rfl
 | succ n ih => simp [rndS, qS_len, ih]
def mixS (s : List (BitVec 32)) : List (BitVec 32) := rndS 1 4 (rndS 0 4 s)
theorem mixS_len (s : List (BitVec 32)) : (mixS s).length = s.length := by simp [mixS, rndS_len]
def mixN : Nat → List (BitVec 32) → List (BitVec 32)
 | 0, s => s
 | n + 1, s => mixS (mixN n s)
theorem mixN_len (n : Nat) (s : List (BitVec 32)) : (mixN n s).length = s.length := by
 induction n with
 | zero => rfl
 | succ n ih => simp [mixN, mixS_len, ih]
def expandB : List (BitVec 8) := [101#8, 120#8, 112#8, 97#8, 110#8, 100#8, 32#8, 51#8, 50#8, 45#8, 98#8, 121#8, 116#8, 101#8, 32#8, 107#8]
def initS (key : List (BitVec 8)) (count : BitVec 32) (nonce : List (BitVec 8)) : List (BitVec 32) := wordsOf expandB ++ wordsOf key ++ [count] ++ wordsOf nonce
def outAt (s was : List (BitVec 32)) (i : Nat) : BitVec 8 := ((s.getD (i / 4) 0#32 + was.getD (i / 4) 0#32) >>> (8 * (i % 4))).setWidth 8
def outTo (s was : List (BitVec 32)) (n : Nat) : List (BitVec 8) := (List.range n).map (outAt s was) ++ List.replicate (64 - n) 0#8
def blockS (key : List (BitVec 8)) (count : BitVec 32) (nonce : List (BitVec 8)) : List (BitVec 8) := (List.range 64).map (outAt (mixN 10 (initS key count nonce)) (initS key count nonce))
theorem blockS_len (key : List (BitVec 8)) (count : BitVec 32) (nonce : List (BitVec 8)) : (blockS key count nonce).length = 64 := by simp [blockS]
theorem outTo_len {s was : List (BitVec 32)} {n : Nat} (h : n ≤ 64) : (outTo s was n).length = 64 := by simp [outTo]; omega
theorem outTo_set {s was : List (BitVec 32)} {n : Nat} (h : n < 64) : (outTo s was n).set n (outAt s was n) = outTo s was (n + 1) := fill_set (outAt s was) 0#8 h
def bytesRow (b s : Nat) (l : List (BitVec 8)) : Row := ⟨false, b, s, 0, l.map u8V, 0⟩
def aggB (l : List (BitVec 8)) : Value := .agg (l.map u8V).toArray

theorem c_rotQ (x : BitVec 32) (k : Nat) (hk : k < 32) :
  Con Try.prog 132 [u32V x, iV (k : Int)] [] (fun v rs => v = u32V (rotS x k) ∧ rs = []) := by
 refine Con.enter Try.func132 Try.ntmps132 (Nat.le_of_ble_eq_true rfl) rfl fun w => ?_
 refine At.seq ?_
 refine At.region ?_
 refine At.p (some 4) (P_assign rfl rfl) ?_
 refine At.nil ?_
 refine At.next ?_
 refine At.seq ?_
 refine At.region ?_
 refine At.p (some 6) (P_move rfl rfl) ?_
 refine At.p (some 7) (P_conv_iw UK.u64 rfl Try.underlying3 Try.underlying131 rfl) ?_
 refine At.p (some 8) (P_and_w UK.u64 (b := 31#64) rfl rfl rfl) ?_
 refine At.p (some 5) (P_assign rfl rfl) ?_
 refine At.nil ?_
 refine At.next ?_
 refine At.seq ?_
 refine At.region ?_
 refine At.p (some 9) (P_move rfl rfl) ?_
 refine At.p (some 10) (P_move rfl rfl) ?_
 refine At.p (some 11) (P_shl_w UK.u32 (n := 32) rfl rfl rfl (by first | decide | omega)) ?_
 refine At.p (some 12) (P_move rfl rfl) ?_
 refine At.p (some 13) (P_move rfl rfl) ?_
 refine At.p (some 14) (P_sub_w UK.u64 (a := 32#64) rfl rfl rfl) ?_
 refine At.p (some 15) (P_shr_w UK.u32 (n := 32) rfl rfl rfl (by first | decide | omega)) ?_
 refine At.p (some 16) (P_or_w UK.u32 rfl rfl rfl) ?_
 refine At.p (some 4) (P_assign rfl rfl) ?_
 refine At.nil ?_
 refine At.next ?_
 refine At.ret ?_
 refine At.give (.inl rfl) [] (rows' := []) (vs := [_]) rfl ⟨rfl, trivial⟩ rfl (by simp) (by simp) ⟨?_, rfl⟩
 have e : (BitVec.ofInt 64 (k : Int) &&& 31#64) = BitVec.ofNat 64 k := by
  apply BitVec.eq_of_toNat_eq
  simp [BitVec.toNat_and]
  rw [show (31 : Nat) = 2 ^ 5 - 1 from rfl, Nat.and_two_pow_sub_one_eq_mod]
  omega
 have e2 : (32#64 - BitVec.ofNat 64 k).toNat = 32 - k := by
  simp [BitVec.toNat_sub]
  omega
 rw [e, retV]
 simp only [rotS, Int.toNat_natCast, e2]
 have e3 : (BitVec.ofNat 64 k).toNat = k := by simp; omega
 rw [e3]

theorem c_quarter (s : List (BitVec 32)) (hs : s.length = 16) (b0 a b c d : Nat) (ha : a < 16) (hb : b < 16) (hc : c < 16) (hd : d < 16) :
  Con Try.prog 145 [ptr b0 0, iV (a : Int), iV (b : Int), iV (c : Int), iV (d : Int)] [⟨true, b0, 0, 178, s.map u32V, 0⟩] (fun v rs => v = .tuple #[] ∧ rs = [⟨true, b0, 0, 178, (qS s a b c d).map u32V, 0⟩]) := by
 refine Con.enter Try.func145 Try.ntmps145 (Nat.le_of_ble_eq_true rfl) rfl fun w => ?_
 refine At.seq ?_
 refine At.draws 12 [] [.q false [0, 1, 2, 3, 4, 5, 6, 7, 8, 9, 10, 11]] (by kernel_rfl) (by kernel_rfl) ?_
 refine At.wp (some 10) (P_move rfl rfl) ?_
 refine At.wp (some 11) (P_move rfl rfl) ?_
 refine At.wp (some 12) (P_nilCheck rfl rfl) ?_
 refine At.wp (some 13) (P_indexAddr_arr1 rfl Try.underlying178 sz104 rfl rfl rfl (by omega)) ?_
 refine At.wq (some 14) (Q_loadM (k := 0) (0#32) rfl rfl Try.underlying104 rfl rfl WD) ?_
 refine At.wp (some 15) (P_move rfl rfl) ?_
 refine At.wp (some 16) (P_move rfl rfl) ?_
 refine At.wp (some 17) (P_nilCheck rfl rfl) ?_
 refine At.wp (some 18) (P_indexAddr_arr1 rfl Try.underlying178 sz104 rfl rfl rfl (by omega)) ?_
 refine At.wq (some 19) (Q_loadM (k := 0) (0#32) rfl rfl Try.underlying104 rfl rfl WD) ?_
 refine At.wp (some 20) (P_add_w UK.u32 rfl rfl rfl) ?_
 refine At.wp (some 21) (P_nilCheck rfl rfl) ?_
 refine At.wqn ?_
 refine At.wt rfl ?_
 refine At.p (some 22) (P_indexAddr_arr1 rfl Try.underlying178 sz104 rfl rfl rfl (by omega)) ?_
 refine At.s (S_storeM none (f := u32V) (k := 0) rfl rfl rfl sz104 rfl rfl rfl WD ?_)
 refine At.nil ?_
 refine At.next ?_
 refine At.seq ?_
 refine At.draws 15 [] [.q false [0, 1, 2, 3, 4, 5, 6, 7, 8, 9, 10, 11, 12, 13, 14]] (by kernel_rfl) (by kernel_rfl) ?_
 refine At.wp (some 23) (P_move rfl rfl) ?_
 refine At.wp (some 24) (P_move rfl rfl) ?_
 refine At.wp (some 25) (P_move rfl rfl) ?_
 refine At.wp (some 26) (P_move rfl rfl) ?_
 refine At.wp (some 27) (P_nilCheck rfl rfl) ?_
 refine At.wp (some 28) (P_indexAddr_arr1 rfl Try.underlying178 sz104 rfl rfl rfl (by omega)) ?_
 refine At.wq (some 29) (Q_loadM (k := 0) (0#32) rfl rfl Try.underlying104 rfl rfl WD) ?_
 refine At.wp (some 30) (P_move rfl rfl) ?_
 refine At.wp (some 31) (P_move rfl rfl) ?_
 refine At.wp (some 32) (P_nilCheck rfl rfl) ?_
 refine At.wp (some 33) (P_indexAddr_arr1 rfl Try.underlying178 sz104 rfl rfl rfl (by omega)) ?_
 refine At.wq (some 34) (Q_loadM (k := 0) (0#32) rfl rfl Try.underlying104 rfl rfl WD) ?_
 refine At.wp (some 35) (P_xor_w UK.u32 rfl rfl rfl) ?_
 refine At.wcV (some 36) [] (vs := [_, _]) rfl en132 rfl V0 (c_rotQ _ 16 (by decide)) ?_
 refine At.wp (some 37) (P_nilCheck rfl rfl) ?_
 refine At.wqn ?_
 refine At.wt rfl ?_
 refine At.p (some 38) (P_indexAddr_arr1 rfl Try.underlying178 sz104 rfl rfl rfl (by omega)) ?_
 refine At.s (S_storeM none (f := u32V) (k := 0) rfl rfl rfl sz104 rfl rfl rfl WD ?_)
 refine At.nil ?_
 refine At.next ?_
 refine At.seq ?_
 refine At.draws 12 [] [.q false [0, 1, 2, 3, 4, 5, 6, 7, 8, 9, 10, 11]] (by kernel_rfl) (by kernel_rfl) ?_
 refine At.wp (some 39) (P_move rfl rfl) ?_
 refine At.wp (some 40) (P_move rfl rfl) ?_
 refine At.wp (some 41) (P_nilCheck rfl rfl) ?_
 refine At.wp (some 42) (P_indexAddr_arr1 rfl Try.underlying178 sz104 rfl rfl rfl (by omega)) ?_
 refine At.wq (some 43) (Q_loadM (k := 0) (0#32) rfl rfl Try.underlying104 rfl rfl WD) ?_
 refine At.wp (some 44) (P_move rfl rfl) ?_
 refine At.wp (some 45) (P_move rfl rfl) ?_
 refine At.wp (some 46) (P_nilCheck rfl rfl) ?_
 refine At.wp (some 47) (P_indexAddr_arr1 rfl Try.underlying178 sz104 rfl rfl rfl (by omega)) ?_
 refine At.wq (some 48) (Q_loadM (k := 0) (0#32) rfl rfl Try.underlying104 rfl rfl WD) ?_
 refine At.wp (some 49) (P_add_w UK.u32 rfl rfl rfl) ?_
 refine At.wp (some 50) (P_nilCheck rfl rfl) ?_
 refine At.wqn ?_
 refine At.wt rfl ?_
 refine At.p (some 51) (P_indexAddr_arr1 rfl Try.underlying178 sz104 rfl rfl rfl (by omega)) ?_
 refine At.s (S_storeM none (f := u32V) (k := 0) rfl rfl rfl sz104 rfl rfl rfl WD ?_)
 refine At.nil ?_
 refine At.next ?_
 refine At.seq ?_
 refine At.draws 15 [] [.q false [0, 1, 2, 3, 4, 5, 6, 7, 8, 9, 10, 11, 12, 13, 14]] (by kernel_rfl) (by kernel_rfl) ?_
 refine At.wp (some 52) (P_move rfl rfl) ?_
 refine At.wp (some 53) (P_move rfl rfl) ?_
 refine At.wp (some 54) (P_move rfl rfl) ?_
 refine At.wp (some 55) (P_move rfl rfl) ?_
 refine At.wp (some 56) (P_nilCheck rfl rfl) ?_
 refine At.wp (some 57) (P_indexAddr_arr1 rfl Try.underlying178 sz104 rfl rfl rfl (by omega)) ?_
 refine At.wq (some 58) (Q_loadM (k := 0) (0#32) rfl rfl Try.underlying104 rfl rfl WD) ?_
 refine At.wp (some 59) (P_move rfl rfl) ?_
 refine At.wp (some 60) (P_move rfl rfl) ?_
 refine At.wp (some 61) (P_nilCheck rfl rfl) ?_
 refine At.wp (some 62) (P_indexAddr_arr1 rfl Try.underlying178 sz104 rfl rfl rfl (by omega)) ?_
 refine At.wq (some 63) (Q_loadM (k := 0) (0#32) rfl rfl Try.underlying104 rfl rfl WD) ?_
 refine At.wp (some 64) (P_xor_w UK.u32 rfl rfl rfl) ?_
 refine At.wcV (some 65) [] (vs := [_, _]) rfl en132 rfl V0 (c_rotQ _ 12 (by decide)) ?_
 refine At.wp (some 66) (P_nilCheck rfl rfl) ?_
 refine At.wqn ?_
 refine At.wt rfl ?_
 refine At.p (some 67) (P_indexAddr_arr1 rfl Try.underlying178 sz104 rfl rfl rfl (by omega)) ?_
 refine At.s (S_storeM none (f := u32V) (k := 0) rfl rfl rfl sz104 rfl rfl rfl WD ?_)
 refine At.nil ?_
 refine At.next ?_
 refine At.seq ?_
 refine At.draws 12 [] [.q false [0, 1, 2, 3, 4, 5, 6, 7, 8, 9, 10, 11]] (by kernel_rfl) (by kernel_rfl) ?_
 refine At.wp (some 68) (P_move rfl rfl) ?_
 refine At.wp (some 69) (P_move rfl rfl) ?_
 refine At.wp (some 70) (P_nilCheck rfl rfl) ?_
 refine At.wp (some 71) (P_indexAddr_arr1 rfl Try.underlying178 sz104 rfl rfl rfl (by omega)) ?_
 refine At.wq (some 72) (Q_loadM (k := 0) (0#32) rfl rfl Try.underlying104 rfl rfl WD) ?_
 refine At.wp (some 73) (P_move rfl rfl) ?_
 refine At.wp (some 74) (P_move rfl rfl) ?_
 refine At.wp (some 75) (P_nilCheck rfl rfl) ?_
 refine At.wp (some 76) (P_indexAddr_arr1 rfl Try.underlying178 sz104 rfl rfl rfl (by omega)) ?_
 refine At.wq (some 77) (Q_loadM (k := 0) (0#32) rfl rfl Try.underlying104 rfl rfl WD) ?_
 refine At.wp (some 78) (P_add_w UK.u32 rfl rfl rfl) ?_
 refine At.wp (some 79) (P_nilCheck rfl rfl) ?_
 refine At.wqn ?_
 refine At.wt rfl ?_
 refine At.p (some 80) (P_indexAddr_arr1 rfl Try.underlying178 sz104 rfl rfl rfl (by omega)) ?_
 refine At.s (S_storeM none (f := u32V) (k := 0) rfl rfl rfl sz104 rfl rfl rfl WD ?_)
 refine At.nil ?_
 refine At.next ?_
 refine At.seq ?_
 refine At.draws 15 [] [.q false [0, 1, 2, 3, 4, 5, 6, 7, 8, 9, 10, 11, 12, 13, 14]] (by kernel_rfl) (by kernel_rfl) ?_
 refine At.wp (some 81) (P_move rfl rfl) ?_
 refine At.wp (some 82) (P_move rfl rfl) ?_
 refine At.wp (some 83) (P_move rfl rfl) ?_
 refine At.wp (some 84) (P_move rfl rfl) ?_
 refine At.wp (some 85) (P_nilCheck rfl rfl) ?_
 refine At.wp (some 86) (P_indexAddr_arr1 rfl Try.underlying178 sz104 rfl rfl rfl (by omega)) ?_
 refine At.wq (some 87) (Q_loadM (k := 0) (0#32) rfl rfl Try.underlying104 rfl rfl WD) ?_
 refine At.wp (some 88) (P_move rfl rfl) ?_
 refine At.wp (some 89) (P_move rfl rfl) ?_
 refine At.wp (some 90) (P_nilCheck rfl rfl) ?_
 refine At.wp (some 91) (P_indexAddr_arr1 rfl Try.underlying178 sz104 rfl rfl rfl (by omega)) ?_
 refine At.wq (some 92) (Q_loadM (k := 0) (0#32) rfl rfl Try.underlying104 rfl rfl WD) ?_
 refine At.wp (some 93) (P_xor_w UK.u32 rfl rfl rfl) ?_
 refine At.wcV (some 94) [] (vs := [_, _]) rfl en132 rfl V0 (c_rotQ _ 8 (by decide)) ?_
 refine At.wp (some 95) (P_nilCheck rfl rfl) ?_
 refine At.wqn ?_
 refine At.wt rfl ?_
 refine At.p (some 96) (P_indexAddr_arr1 rfl Try.underlying178 sz104 rfl rfl rfl (by omega)) ?_
 refine At.s (S_storeM none (f := u32V) (k := 0) rfl rfl rfl sz104 rfl rfl rfl WD ?_)
 refine At.nil ?_
 refine At.next ?_
 refine At.seq ?_
 refine At.draws 12 [] [.q false [0, 1, 2, 3, 4, 5, 6, 7, 8, 9, 10, 11]] (by kernel_rfl) (by kernel_rfl) ?_
 refine At.wp (some 97) (P_move rfl rfl) ?_
 refine At.wp (some 98) (P_move rfl rfl) ?_
 refine At.wp (some 99) (P_nilCheck rfl rfl) ?_
 refine At.wp (some 100) (P_indexAddr_arr1 rfl Try.underlying178 sz104 rfl rfl rfl (by omega)) ?_
 refine At.wq (some 101) (Q_loadM (k := 0) (0#32) rfl rfl Try.underlying104 rfl rfl WD) ?_
 refine At.wp (some 102) (P_move rfl rfl) ?_
 refine At.wp (some 103) (P_move rfl rfl) ?_
 refine At.wp (some 104) (P_nilCheck rfl rfl) ?_
 refine At.wp (some 105) (P_indexAddr_arr1 rfl Try.underlying178 sz104 rfl rfl rfl (by omega)) ?_
 refine At.wq (some 106) (Q_loadM (k := 0) (0#32) rfl rfl Try.underlying104 rfl rfl WD) ?_
 refine At.wp (some 107) (P_add_w UK.u32 rfl rfl rfl) ?_
 refine At.wp (some 108) (P_nilCheck rfl rfl) ?_
 refine At.wqn ?_
 refine At.wt rfl ?_
 refine At.p (some 109) (P_indexAddr_arr1 rfl Try.underlying178 sz104 rfl rfl rfl (by omega)) ?_
 refine At.s (S_storeM none (f := u32V) (k := 0) rfl rfl rfl sz104 rfl rfl rfl WD ?_)
 refine At.nil ?_
 refine At.next ?_
 refine At.draws 15 [] [.q false [0, 1, 2, 3, 4, 5, 6, 7, 8, 9, 10, 11, 12, 13, 14]] (by kernel_rfl) (by kernel_rfl) ?_
 refine At.wp (some 110) (P_move rfl rfl) ?_
 refine At.wp (some 111) (P_move rfl rfl) ?_
 refine At.wp (some 112) (P_move rfl rfl) ?_
 refine At.wp (some 113) (P_move rfl rfl) ?_
 refine At.wp (some 114) (P_nilCheck rfl rfl) ?_
 refine At.wp (some 115) (P_indexAddr_arr1 rfl Try.underlying178 sz104 rfl rfl rfl (by omega)) ?_
 refine At.wq (some 116) (Q_loadM (k := 0) (0#32) rfl rfl Try.underlying104 rfl rfl WD) ?_
 refine At.wp (some 117) (P_move rfl rfl) ?_
 refine At.wp (some 118) (P_move rfl rfl) ?_
 refine At.wp (some 119) (P_nilCheck rfl rfl) ?_
 refine At.wp (some 120) (P_indexAddr_arr1 rfl Try.underlying178 sz104 rfl rfl rfl (by omega)) ?_
 refine At.wq (some 121) (Q_loadM (k := 0) (0#32) rfl rfl Try.underlying104 rfl rfl WD) ?_
 refine At.wp (some 122) (P_xor_w UK.u32 rfl rfl rfl) ?_
 refine At.wcV (some 123) [] (vs := [_, _]) rfl en132 rfl V0 (c_rotQ _ 7 (by decide)) ?_
 refine At.wp (some 124) (P_nilCheck rfl rfl) ?_
 refine At.wqn ?_
 refine At.wt rfl ?_
 refine At.p (some 125) (P_indexAddr_arr1 rfl Try.underlying178 sz104 rfl rfl rfl (by omega)) ?_
 refine At.s (S_storeM none (f := u32V) (k := 0) rfl rfl rfl sz104 rfl rfl rfl WD ?_)
 refine At.nil ?_
 refine At.give (.inr rfl) [0] (rows' := [_]) (vs := []) rfl trivial rfl (by simp) (by simp) ⟨rfl, rfl⟩

theorem c_mixQ (s : List (BitVec 32)) (hs : s.length = 16) (b0 : Nat) :
  Con Try.prog 135 [ptr b0 0] [⟨true, b0, 0, 178, s.map u32V, 0⟩] (fun v rs => v = .tuple #[] ∧ rs = [⟨true, b0, 0, 178, (mixS s).map u32V, 0⟩]) := by
 refine Con.enter Try.func135 Try.ntmps135 (Nat.le_of_ble_eq_true rfl) rfl fun w => ?_
 refine At.seq ?_
 refine At.seq ?_
 refine At.region ?_
 refine At.p (some 3) (P_move rfl rfl) ?_
 refine At.nil ?_
 refine At.next ?_
 refine At.block ?_
 refine At.loopx (I := fun m fr H => ∃ i, m = 4 - i ∧ fr = frOf [(0, ptr b0 0), (3, iV (i : Int))] ∧ H = hOf [(0, ⟨true, b0, 0, 178, (rndS 0 i s).map u32V, 0⟩)] ∧ i ≤ 4) ?_ ?_
 ·
  intro Kc0 hKc0
  refine At.to [(0, _), (3, _)] [(0, _)] (AllL.cons_ (rfl) (AllL.cons_ (rfl) trivial)) (AllL.cons_ (rfl) trivial) ?_
  exact hKc0 _ _ _ ⟨0, rfl, rfl, rfl, by omega⟩
 ·
  rintro m fr H ⟨i, rfl, rfl, rfl, hi⟩ Kc0 hKc0
  refine At.seq ?_
  refine At.region ?_
  refine At.p (some 4) (P_cmp rfl rfl rfl rfl rfl rfl) ?_
  refine At.nil ?_
  refine At.next ?_
  refine At.seq ?_
  refine At.cond rfl (fun h4 => ?_) (fun h4 => ?_)
  · -- cond 4 t
   have hlt : i < 4 := by simp at h4; omega
   refine At.skip ?_
   refine At.next ?_
   refine At.seq ?_
   refine At.block ?_
   refine At.seq ?_
   refine At.region ?_
   refine At.p (some 5) (P_move rfl rfl) ?_
   refine At.p (some 2) (P_assign rfl rfl) ?_
   refine At.nil ?_
   refine At.next ?_
   refine At.region ?_
   refine At.p (some 6) (P_move rfl rfl) ?_
   refine At.p (some 7) (P_move rfl rfl) ?_
   refine At.p (some 8) (P_move rfl rfl) ?_
   refine At.p (some 9) (P_add_i rfl rfl rfl (by omega)) ?_
   refine At.p (some 10) (P_move rfl rfl) ?_
   refine At.p (some 11) (P_add_i rfl rfl rfl (by omega)) ?_
   refine At.p (some 12) (P_move rfl rfl) ?_
   refine At.p (some 13) (P_add_i rfl rfl rfl (by omega)) ?_
   refine At.s (S_callR (some 14) [(0, _)] [] [0] (vs := [_, _, _, _, _]) rfl en145 rfl (ON rfl rfl O0) (by simp) V0 (by simp) (c_quarter _ (by rw [rndS_len]; exact hs) _ i (4 + i) (8 + i) (12 + i) (by omega) (by omega) (by omega) (by omega)) (by rintro _ _ ⟨rfl, rfl⟩; rfl) ?_)
   rintro _ _ ⟨rfl, rfl⟩
   refine At.nil ?_
   refine At.inb_n ?_
   refine At.next ?_
   refine At.region ?_
   refine At.p (some 15) (P_add_i rfl rfl rfl (by omega)) ?_
   refine At.p (some 3) (P_move rfl rfl) ?_
   refine At.nil ?_
   refine At.next ?_
   refine At.to [(0, _), (3, _)] [(0, ⟨true, b0, 0, 178, (rndS 0 (i + 1) s).map u32V, 0⟩)] (AllL.cons_ (rfl) (AllL.cons_ (rfl) trivial)) (AllL.cons_ (congrArg some (by simp [rndS, Nat.mod_eq_of_lt hlt])) trivial) ?_
   exact hKc0 _ _ _ (by omega) ⟨i + 1, rfl, rfl, rfl, by omega⟩
  · -- cond 4 f
   obtain rfl : i = 4 := by simp at h4; omega
   refine At.exit ?_
   refine At.thn_e ?_
   refine At.thn_e ?_
   refine At.inb_hit ?_
   refine At.next ?_
   refine At.seq ?_
   refine At.region ?_
   refine At.p (some 16) (P_move rfl rfl) ?_
   refine At.s (S_callR (some 17) [(0, _)] [] [0] (vs := [_, _, _, _, _]) rfl en145 rfl (ON rfl rfl O0) (by simp) V0 (by simp) (c_quarter _ (by simp [qS_len, rndS_len, hs]) _ 0 5 10 15 (by decide) (by decide) (by decide) (by decide)) (by rintro _ _ ⟨rfl, rfl⟩; rfl) ?_)
   rintro _ _ ⟨rfl, rfl⟩
   refine At.nil ?_
   refine At.next ?_
   refine At.seq ?_
   refine At.region ?_
   refine At.p (some 18) (P_move rfl rfl) ?_
   refine At.s (S_callR (some 19) [(0, _)] [] [0] (vs := [_, _, _, _, _]) rfl en145 rfl (ON rfl rfl O0) (by simp) V0 (by simp) (c_quarter _ (by simp [qS_len, rndS_len, hs]) _ 1 6 11 12 (by decide) (by decide) (by decide) (by decide)) (by rintro _ _ ⟨rfl, rfl⟩; rfl) ?_)
   rintro _ _ ⟨rfl, rfl⟩
   refine At.nil ?_
   refine At.next ?_
   refine At.seq ?_
   refine At.region ?_
   refine At.p (some 20) (P_move rfl rfl) ?_
   refine At.s (S_callR (some 21) [(0, _)] [] [0] (vs := [_, _, _, _, _]) rfl en145 rfl (ON rfl rfl O0) (by simp) V0 (by simp) (c_quarter _ (by simp [qS_len, rndS_len, hs]) _ 2 7 8 13 (by decide) (by decide) (by decide) (by decide)) (by rintro _ _ ⟨rfl, rfl⟩; rfl) ?_)
   rintro _ _ ⟨rfl, rfl⟩
   refine At.nil ?_
   refine At.next ?_
   refine At.region ?_
   refine At.p (some 22) (P_move rfl rfl) ?_
   refine At.s (S_callR (some 23) [(0, _)] [] [0] (vs := [_, _, _, _, _]) rfl en145 rfl (ON rfl rfl O0) (by simp) V0 (by simp) (c_quarter _ (by simp [qS_len, rndS_len, hs]) _ 3 4 9 14 (by decide) (by decide) (by decide) (by decide)) (by rintro _ _ ⟨rfl, rfl⟩; rfl) ?_)
   rintro _ _ ⟨rfl, rfl⟩
   refine At.nil ?_
   refine At.give (.inr rfl) [0] (rows' := [_]) (vs := []) rfl trivial rfl (by simp) (by simp) ⟨rfl, rfl⟩

theorem c_words (A : Option Addr) (l : List (BitVec 8)) (ca bq q : Nat) (hA : 0 < l.length → A = some ⟨bq, q, none⟩) (hca : l.length ≤ ca) (hl : ca ≤ 100000000) :
  Con Try.prog 134 [.slice A l.length ca] [bytesRow bq q l] (fun v rs => ∃ A2 b2 c2, (0 < c2 → A2 = some ⟨b2, 0, none⟩) ∧ (wordsOf l).length ≤ c2 ∧ v = .slice A2 (wordsOf l).length c2 ∧ rs = [⟨true, b2, 0, 104, (wordsOf l).map u32V, c2 - (wordsOf l).length⟩]) := by
 refine Con.enterM Try.func134 Try.ntmps134 (Nat.le_of_ble_eq_true rfl) rfl fun w hS => ?_
 refine At.seq ?_
 refine At.region ?_
 refine At.p (some 2) (P_assign rfl rfl) ?_
 refine At.nil ?_
 refine At.next ?_
 refine At.seq ?_
 refine At.region ?_
 refine At.s (S_alloc (some 3) 3 rfl ze106 rfl (fun b3 => ?_))
 refine At.nil ?_
 refine At.next ?_
 refine At.seq ?_
 refine At.seq ?_
 refine At.region ?_
 refine At.p (some 8) (P_move rfl rfl) ?_
 refine At.empty 4 0 104 ?_
 refine At.s (S_callV (some 9) [] [5, 6] (vs := [_, _]) rfl en109 rfl V0 (by simp) (c_Chunk A l.length ca 4 (by decide)) (by rintro _ _ ⟨bs, bn, rfl, rfl⟩; rfl) ?_)
 rintro _ _ ⟨bs, bn, rfl, rfl⟩
 refine At.nil ?_
 refine At.next ?_
 refine At.block ?_
 refine At.to [(3, ptr b3 0), (9, _)] [(0, _), (3, _), (4, _), (5, _), (6, _)] (AllL.cons_ (rfl) (AllL.cons_ (rfl) trivial)) (AllL.cons_ (rfl) (AllL.cons_ (rfl) (AllL.cons_ (rfl) (AllL.cons_ (rfl) (AllL.cons_ (rfl) trivial))))) ?_
 refine At.range (C2 bs bn (.slice A l.length ca) (iV ((4 : Nat) : Int))) (it_Chunk A l.length ca 4 bs bn (by decide) hca (by omega) (by decide)) (fun i H => ∃ A2 b2 c2, H = hOf [(0, bytesRow bq q l), (3, ⟨true, b3, 0, 106, [.slice A2 i c2], 0⟩), (4, ⟨true, b2, 0, 104, (wordsTo l i).map u32V, c2 - i⟩), (5, ⟨true, bs, 0, 23, [.slice A l.length ca], 0⟩), (6, ⟨true, bn, 0, 3, [iV ((4 : Nat) : Int)], 0⟩)] ∧ ((0 < c2 → A2 = some ⟨b2, 0, none⟩) ∧ i ≤ c2)) (fun H => False) (fun x => frOf [(3, ptr b3 0), (4, x)]) rfl en133 rfl hS ?_ ?_ ?_ ?_ ?_ ?_
 ·
  rintro i _ w ⟨A2, b2, c2, rfl, hA2, hc2⟩ hc hh
  exact ⟨hh.cell hc (k := 5) (j := 0) rfl rfl, hh.cell hc (k := 6) (j := 0) rfl rfl⟩
 · exact ⟨none, 0, 0, rfl, by simp, by simp⟩
 ·
  intro lR nR wbR XR x H' K hKa
  refine At.regionR (fun ⟨_, _, h⟩ => h) ?_
  refine At.p (some 4) (P_assign rfl rfl) ?_
  refine At.nil ?_
  refine At.next ?_
  exact At.toF [(3, _), (4, _)] (AllL.cons_ (rfl) (AllL.cons_ (rfl) trivial)) hKa
 ·
  rintro lR nR wbR XR i x _ hx ⟨A2, b2, c2, rfl, hA2, hc2⟩ Q' hK hR hno
  obtain ⟨hlt, rfl⟩ := chunksV_some (by decide) hx
  refine At.blockR ?_
  refine At.seqR ?_
  refine At.regionR (fun ⟨a, w, h⟩ => hno a w h) ?_
  refine At.p (some 5) (P_assign rfl rfl) ?_
  refine At.nil ?_
  refine At.next ?_
  refine At.seqR ?_
  refine At.seqR ?_
  refine At.regionR (fun ⟨a, w, h⟩ => hno a w h) ?_
  refine At.p (some 11) (P_move rfl rfl) ?_
  refine At.p (some 12) (P_len_sl rfl rfl ⟨_, Try.underlying23⟩ rfl) ?_
  refine At.p (some 13) (P_move rfl rfl) ?_
  refine At.nil ?_
  refine At.next ?_
  refine At.blockR ?_
  refine At.loopxR (I := fun m fr H => ∃ j, m = min 4 (l.length - i * 4) - j ∧ fr = frOf [(3, ptr b3 0), (5, u32V (leW l (i * 4) j)), (11, chunkV A l.length 4 i), (12, iV ((min 4 (l.length - i * 4) : Nat) : Int)), (13, iV (j : Int))] ∧ H = hOf [(0, bytesRow bq q l), (3, ⟨true, b3, 0, 106, [.slice A2 i c2], 0⟩), (4, ⟨true, b2, 0, 104, (wordsTo l i).map u32V, c2 - i⟩), (5, ⟨true, bs, 0, 23, [.slice A l.length ca], 0⟩), (6, ⟨true, bn, 0, 3, [iV ((4 : Nat) : Int)], 0⟩)] ∧ j ≤ min 4 (l.length - i * 4)) ?_ ?_
  ·
   intro Kc0 hKc0
   refine At.to [(3, _), (5, _), (11, _), (12, _), (13, _)] [(0, _), (3, _), (4, _), (5, _), (6, _)] (AllL.cons_ (rfl) (AllL.cons_ (rfl) (AllL.cons_ (rfl) (AllL.cons_ (rfl) (AllL.cons_ (rfl) trivial))))) (AllL.cons_ (rfl) (AllL.cons_ (rfl) (AllL.cons_ (rfl) (AllL.cons_ (rfl) (AllL.cons_ (rfl) trivial))))) ?_
   exact hKc0 _ _ _ ⟨0, rfl, rfl, rfl, by omega⟩
  ·
   rintro m fr H ⟨j, rfl, rfl, rfl, hj⟩ Kc0 hKc0
   refine At.seqR ?_
   refine At.regionR (fun ⟨a, w, h⟩ => hno a w h) ?_
   refine At.p (some 14) (P_cmp rfl rfl rfl rfl rfl rfl) ?_
   refine At.nil ?_
   refine At.next ?_
   refine At.seqR ?_
   refine At.condR rfl (fun h14 => ?_) (fun h14 => ?_)
   · -- cond 14 t
    have hlt2 : j < min 4 (l.length - i * 4) := by simp at h14; omega
    refine At.skipR ?_
    refine At.next ?_
    refine At.seqR ?_
    refine At.blockR ?_
    refine At.seqR ?_
    refine At.regionR (fun ⟨a, w, h⟩ => hno a w h) ?_
    refine At.p (some 15) (P_move rfl rfl) ?_
    refine At.p (some 16) (P_indexAddr_sl1 rfl Try.underlying23 sz5 rfl (chunk_addr (hA (by omega)) _) rfl rfl (by omega)) ?_
    refine At.q (some 17) (Q_loadR (l := l) (k := 0) (j := i * 4 + j) (0#8) rfl rfl Try.underlying5 rfl rfl (by omega) (by omega)) ?_
    refine At.p (some 6) (P_assign rfl rfl) ?_
    refine At.p (some 7) (P_assign rfl rfl) ?_
    refine At.nil ?_
    refine At.next ?_
    refine At.regionR (fun ⟨a, w, h⟩ => hno a w h) ?_
    refine At.p (some 18) (P_move rfl rfl) ?_
    refine At.p (some 19) (P_move rfl rfl) ?_
    refine At.p (some 20) (P_conv_ww UK.u32 (m := 8) rfl Try.underlying5 Try.underlying104 rfl) ?_
    refine At.p (some 21) (P_move rfl rfl) ?_
    refine At.p (some 22) (P_mul_i rfl rfl rfl (by omega)) ?_
    refine At.p (some 23) (P_shl_w UK.u32 (n := 32) rfl rfl rfl (by first | decide | omega)) ?_
    refine At.p (some 24) (P_or_w UK.u32 rfl rfl rfl) ?_
    refine At.p (some 5) (P_assign rfl rfl) ?_
    refine At.nil ?_
    refine At.inb_n ?_
    refine At.next ?_
    refine At.regionR (fun ⟨a, w, h⟩ => hno a w h) ?_
    refine At.p (some 25) (P_add_i rfl rfl rfl (by omega)) ?_
    refine At.p (some 13) (P_move rfl rfl) ?_
    refine At.nil ?_
    refine At.next ?_
    refine At.to [(3, _), (5, u32V (leW l (i * 4) (j + 1))), (11, _), (12, _), (13, _)] [(0, _), (3, _), (4, _), (5, _), (6, _)] (AllL.cons_ (rfl) (AllL.cons_ (by rw [show u32V (leW l (i * 4) (j + 1)) = _ from congrArg u32V (show leW l (i * 4) (j + 1) = leW l (i * 4) j ||| ((l.getD (i * 4 + j) 0#8).setWidth 32) <<< (8 * (j : Int)).toNat from by rw [show (8 * (j : Int)).toNat = 8 * j by omega]; rfl)]; rfl) (AllL.cons_ (rfl) (AllL.cons_ (rfl) (AllL.cons_ (rfl) trivial))))) (AllL.cons_ (rfl) (AllL.cons_ (rfl) (AllL.cons_ (rfl) (AllL.cons_ (rfl) (AllL.cons_ (rfl) trivial))))) ?_
    exact hKc0 _ _ _ (by omega) ⟨j + 1, rfl, rfl, rfl, by omega⟩
   · -- cond 14 f
    obtain rfl : j = min 4 (l.length - i * 4) := by simp at h14; omega
    refine At.exitR ?_
    refine At.thn_e ?_
    refine At.thn_e ?_
    refine At.inb_hit ?_
    refine At.next ?_
    refine At.regionR (fun ⟨a, w, h⟩ => hno a w h) ?_
    refine At.q (some 26) (Q_loadO (k := 3) rfl rfl Try.underlying106 rfl rfl rfl) ?_
    refine At.p (some 27) (P_move rfl rfl) ?_
    refine At.s (S_buildSliceV (some 28) 7 [u32V (wordAt l i)] rfl Try.underlying106 sz104 ze104 rfl rfl (by decide) (by decide) rfl rfl (fun b7 => ?_))
    refine At.s (S_appendM (some 29) 4 (wordsTo l (i + 1)) (f := u32V) (l := wordsTo l i) (L := [wordAt l i]) rfl Try.underlying106 Try.underlying106 (.inr ⟨_, rfl⟩) sz104 by104 ze104 rfl rfl (fun h => ⟨hA2 h, rfl⟩) (wordsTo_len _ _) (by omega) (Src.row (k := 7) (j := 0) rfl (fun _ => rfl) (fun _ => ⟨rfl, rfl, rfl⟩) rfl rfl) (fun _ => rfl) WD WD (wordsTo_succ _ _) rfl ?_)
    intro A3 b3' c3 g1 g2
    refine At.s (S_store none (k := 3) rfl rfl rfl sz106 rfl rfl rfl WD ?_)
    refine At.nil ?_
    refine At.inb_n ?_
    refine At.toH [(0, _), (3, ⟨true, b3, 0, 106, [.slice A3 (i + 1) c3], 0⟩), (4, ⟨true, b3', 0, 104, (wordsTo l (i + 1)).map u32V, c3 - (i + 1)⟩), (5, _), (6, _)] (AllL.cons_ (rfl) (AllL.cons_ (by rw [wordsTo_len]; rfl) (AllL.cons_ (by rw [wordsTo_len]; rfl) (AllL.cons_ (rfl) (AllL.cons_ (rfl) trivial))))) ?_
    exact hK _ _ ⟨A3, b3', c3, rfl, g1, by rw [wordsTo_len] at g2; exact g2⟩
 ·
  rintro D w1 hX hD _ ⟨A2, b2, c2, rfl, hA2, hc2⟩
  have hm : (chunksV A l.length 4).length = (l.length + 4 - 1) / 4 := chunksV_len
  generalize (chunksV A l.length 4).length = m at *
  subst hm
  refine At.inb_n ?_
  refine At.next ?_
  refine At.seq ?_
  refine At.region ?_
  refine At.q (some 30) (Q_loadO (k := 3) rfl rfl Try.underlying106 rfl rfl rfl) ?_
  refine At.p (some 2) (P_assign rfl rfl) ?_
  refine At.nil ?_
  refine At.next ?_
  refine At.ret ?_
  refine At.giveM hX hD (.inl rfl) [4] (rows' := [_]) (ResV.tmps (vs := [_]) rfl ⟨rfl, trivial⟩) rfl (by simp) (by simp) ?_
  exact ⟨A2, b2, c2, hA2, by rw [wordsOf, wordsTo_len]; exact hc2, by rw [wordsOf, wordsTo_len]; rfl, by rw [wordsOf, wordsTo_len]⟩
 ·
  intro D w1 hX hD H' hr
  exact hr.elim

theorem c_wordsN {A : Option Addr} {l : List (BitVec 8)} {n ca bq q : Nat} (hn : l.length = n) (hA : 0 < n → A = some ⟨bq, q, none⟩) (hca : n ≤ ca) (hl : ca ≤ 100000000) :
  Con Try.prog 134 [.slice A n ca] [bytesRow bq q l] (fun v rs => ∃ A2 b2 c2, (0 < c2 → A2 = some ⟨b2, 0, none⟩) ∧ (wordsOf l).length ≤ c2 ∧ v = .slice A2 (wordsOf l).length c2 ∧ rs = [⟨true, b2, 0, 104, (wordsOf l).map u32V, c2 - (wordsOf l).length⟩]) := by
 subst hn
 exact c_words A l ca bq q hA hca hl
theorem wordsOf_len (l : List (BitVec 8)) : (wordsOf l).length = (l.length + 4 - 1) / 4 := by rw [wordsOf, wordsTo_len]
theorem initS_len {key nonce : List (BitVec 8)} (c : BitVec 32) (hk : key.length = 32) (hn : nonce.length = 12) : (initS key c nonce).length = 16 := by
 simp only [initS, List.length_append, wordsOf_len, hk, hn, List.length_cons, List.length_nil]
 decide

theorem c_Block (key nonce : List (BitVec 8)) (count : BitVec 32) (hkey : key.length = 32) (hnonce : nonce.length = 12) :
  Con Try.prog 110 [aggB key, u32V count, aggB nonce] [] (fun v rs => v = aggB (blockS key count nonce) ∧ rs = []) := by
 refine Con.enter Try.func110 Try.ntmps110 (Nat.le_of_ble_eq_true rfl) rfl fun w => ?_
 refine At.seq ?_
 have hI := initS_len count hkey hnonce
 refine At.region ?_
 refine At.s (S_box (some 3) 3 (zs := key.map u8V) rfl rfl rfl (fun b3 => ?_))
 refine At.s (S_box (some 5) 5 (zs := nonce.map u8V) rfl rfl rfl (fun b5 => ?_))
 refine At.s (S_alloc (some 6) 6 (zs := (List.replicate 64 0#8).map u8V) rfl ze156 rfl (fun b6 => ?_))
 refine At.nil ?_
 refine At.next ?_
 refine At.seq ?_
 refine At.region ?_
 refine At.s (S_alloc (some 7) 7 (zs := (List.replicate 16 0#32).map u32V) rfl ze178 rfl (fun b7 => ?_))
 refine At.nil ?_
 refine At.next ?_
 refine At.seq ?_
 refine At.draws 4 [1, 2] [.q true [3], .e false 0, .e true 1, .e true 2] (by kernel_rfl) (by kernel_rfl) ?_
 refine At.wp (some 15) (P_slice_arr1 rfl Try.underlying22 sz5 rfl rfl rfl rfl (by omega) (by omega) (by omega) (by omega)) ?_
 refine At.wqn ?_
 refine At.we ?_
 refine S_buildSliceV (some 12) 10 [_, _, _, _, _, _, _, _, _, _, _, _, _, _, _, _] rfl Try.underlying23 sz5 ze5 rfl rfl (by decide) (by decide) rfl ⟨rfl, rfl, rfl, rfl, rfl, rfl, rfl, rfl, rfl, rfl, rfl, rfl, rfl, rfl, rfl, rfl⟩ (fun b10 => ?_)
 refine At.we ?_
 refine S_convB (some 13) (k := 10) rfl Try.underlying23 Try.underlying5 rfl rfl (by simp) ?_
 refine At.we ?_
 refine SStep.up (S_callV (some 14) [(10, _)] [11] (vs := [_]) rfl en134 rfl (VN (by simp) rfl View.all V0) (by simp) (c_wordsN (l := expandB) (bq := b10) (q := 0) rfl (fun _ => rfl) (by decide) (by decide)) (by rintro _ _ ⟨A14, q14, c14, g14a, g14b, rfl, rfl⟩; rfl) ?_)
 rintro _ _ ⟨A14, q14, c14, g14a, g14b, rfl, rfl⟩
 refine At.wt rfl ?_
 refine At.s (S_callV (some 16) [(3, _)] [12] (vs := [_]) rfl en134 rfl (VN (by simp) rfl View.all V0) (by simp) (c_wordsN (l := key) (bq := b3) (q := 0) hkey (fun _ => rfl) (by decide) (by decide)) (by rintro _ _ ⟨A16, q16, c16, g16a, g16b, rfl, rfl⟩; rfl) ?_)
 rintro _ _ ⟨A16, q16, c16, g16a, g16b, rfl, rfl⟩
 refine At.s (S_appendM (some 17) 11 (wordsOf expandB ++ wordsOf key) (f := u32V) (l := wordsOf expandB) (L := wordsOf key) rfl Try.underlying106 Try.underlying106 (.inr ⟨_, rfl⟩) sz104 by104 ze104 rfl rfl (fun h => ⟨g14a h, rfl⟩) rfl (by omega) (Src.row (k := 12) (j := 0) rfl (fun h => g16a (by omega)) (fun _ => ⟨rfl, rfl, rfl⟩) (by simp [List.take_of_length_le]) (by simp)) (fun _ => rfl) (by simp only [wordsOf_len, List.length_append, hkey, hnonce, List.length_cons, List.length_nil]; decide) (by simp only [wordsOf_len, List.length_append, hkey, hnonce, List.length_cons, List.length_nil]; decide) rfl rfl ?_)
 intro A17 q17 c17 g17a g17b
 refine At.p (some 8) (P_assign rfl rfl) ?_
 refine At.nil ?_
 refine At.next ?_
 refine At.seq ?_
 refine At.draws 8 [4, 6, 7] [.q true [0, 1, 2, 5], .e false 3, .e true 4, .e true 6, .e true 7] (by kernel_rfl) (by kernel_rfl) ?_
 refine At.wp (some 18) (P_slice_arr1 rfl Try.underlying178 sz104 rfl rfl rfl rfl (by omega) (by omega) (by omega) (by omega)) ?_
 refine At.wp (some 19) (P_move rfl rfl) ?_
 refine At.wp (some 20) (P_move rfl rfl) ?_
 refine At.wp (some 23) (P_slice_arr1 rfl Try.underlying54 sz5 rfl rfl rfl rfl (by omega) (by omega) (by omega) (by omega)) ?_
 refine At.wqn ?_
 refine At.we ?_
 refine S_buildSliceV (some 21) 13 [_] rfl Try.underlying106 sz104 ze104 rfl rfl (by decide) (by decide) rfl rfl (fun b13 => ?_)
 refine At.we ?_
 refine S_appendM (some 22) 11 (wordsOf expandB ++ wordsOf key ++ [count]) (f := u32V) (l := wordsOf expandB ++ wordsOf key) (L := [count]) rfl Try.underlying106 Try.underlying106 (.inr ⟨_, rfl⟩) sz104 by104 ze104 rfl rfl (fun h => ⟨g17a h, rfl⟩) rfl (by omega) (Src.row (k := 13) (j := 0) rfl (fun _ => rfl) (fun _ => ⟨rfl, rfl, rfl⟩) rfl rfl) (fun _ => rfl) (by simp only [wordsOf_len, List.length_append, hkey, hnonce, List.length_cons, List.length_nil]; decide) (by simp only [wordsOf_len, List.length_append, hkey, hnonce, List.length_cons, List.length_nil]; decide) rfl rfl ?_
 intro A22 q22 c22 g22a g22b
 refine At.we ?_
 refine SStep.up (S_callV (some 24) [(5, _)] [15] (vs := [_]) rfl en134 rfl (VN (by simp) rfl View.all V0) (by simp) (c_wordsN (l := nonce) (bq := b5) (q := 0) hnonce (fun _ => rfl) (by decide) (by decide)) (by rintro _ _ ⟨A24, q24, c24, g24a, g24b, rfl, rfl⟩; rfl) ?_)
 rintro _ _ ⟨A24, q24, c24, g24a, g24b, rfl, rfl⟩
 refine At.we ?_
 refine S_appendM (some 25) 11 (initS key count nonce) (f := u32V) (l := wordsOf expandB ++ wordsOf key ++ [count]) (L := wordsOf nonce) rfl Try.underlying106 Try.underlying106 (.inr ⟨_, rfl⟩) sz104 by104 ze104 rfl rfl (fun h => ⟨g22a h, rfl⟩) rfl (by omega) (Src.row (k := 15) (j := 0) rfl (fun h => g24a (by omega)) (fun _ => ⟨rfl, rfl, rfl⟩) (by simp [List.take_of_length_le]) (by simp)) (fun _ => rfl) (by simp only [wordsOf_len, List.length_append, hkey, hnonce, List.length_cons, List.length_nil]; decide) (by simp only [wordsOf_len, List.length_append, hkey, hnonce, List.length_cons, List.length_nil]; decide) rfl rfl ?_
 intro A25 q25 c25 g25a g25b
 refine At.wt rfl ?_
 refine At.s (S_copyM (some 26) 7 11 (j := 0) (n := 16) (L := initS key count nonce) (p := 0) (m := (initS key count nonce).length) rfl Try.underlying106 sz104 rfl (fun _ => rfl) rfl rfl (fun h => g25a (by omega)) (fun h => ⟨rfl, rfl, rfl⟩) (by rw [List.drop_zero, List.take_of_length_le (by rw [List.length_map, hI]; exact Nat.le_refl _)]) (by rw [hI]; rfl) hI (fun _ => rfl) (by decide) ?_)
 rw [splice_all _ _ (by rw [hI]; rfl)]
 refine At.nil ?_
 refine At.next ?_
 refine At.seq ?_
 refine At.region ?_
 refine At.q (some 27) (Q_loadA (k := 7) rfl rfl Try.underlying178 rfl sz178 WD rfl) ?_
 refine At.s (S_alloc (some 9) 9 (zs := (List.replicate 16 0#32).map u32V) rfl ze178 rfl (fun b9 => ?_))
 refine At.s (S_storeA none (k := 9) (vs := _) rfl rfl rfl (by first | (rw [sz178]; simp <;> omega) | exact sz178) rfl WA WB rfl WC ?_)
 refine At.nil ?_
 refine At.next ?_
 refine At.seq ?_
 refine At.seq ?_
 refine At.region ?_
 refine At.p (some 28) (P_move rfl rfl) ?_
 refine At.nil ?_
 refine At.next ?_
 refine At.block ?_
 refine At.loopx (I := fun m fr H => ∃ i, m = 10 - i ∧ fr = frOf [(6, ptr b6 0), (7, ptr b7 0), (9, ptr b9 0), (28, iV (i : Int))] ∧ H = hOf [(6, ⟨true, b6, 0, 156, (List.replicate 64 0#8).map u8V, 0⟩), (7, ⟨true, b7, 0, 178, (mixN i (initS key count nonce)).map u32V, 0⟩), (9, ⟨true, b9, 0, 178, (initS key count nonce).map u32V, 0⟩)] ∧ i ≤ 10) ?_ ?_
 ·
  intro Kc0 hKc0
  refine At.to [(6, _), (7, _), (9, _), (28, _)] [(6, _), (7, _), (9, _)] (AllL.cons_ (rfl) (AllL.cons_ (rfl) (AllL.cons_ (rfl) (AllL.cons_ (rfl) trivial)))) (AllL.cons_ (rfl) (AllL.cons_ (rfl) (AllL.cons_ (rfl) trivial))) ?_
  exact hKc0 _ _ _ ⟨0, rfl, rfl, rfl, by omega⟩
 ·
  rintro m fr H ⟨i, rfl, rfl, rfl, hi⟩ Kc0 hKc0
  refine At.seq ?_
  refine At.region ?_
  refine At.p (some 29) (P_cmp rfl rfl rfl rfl rfl rfl) ?_
  refine At.nil ?_
  refine At.next ?_
  refine At.seq ?_
  refine At.cond rfl (fun h29 => ?_) (fun h29 => ?_)
  · -- cond 29 t
   have hlt : i < 10 := by simp at h29; omega
   refine At.skip ?_
   refine At.next ?_
   refine At.seq ?_
   refine At.block ?_
   refine At.region ?_
   refine At.s (S_callR (some 30) [(7, _)] [] [7] (vs := [_]) rfl en135 rfl (ON rfl rfl O0) (by simp) V0 (by simp) (c_mixQ _ (by rw [mixN_len]; exact hI) _) (by rintro _ _ ⟨rfl, rfl⟩; rfl) ?_)
   rintro _ _ ⟨rfl, rfl⟩
   refine At.nil ?_
   refine At.inb_n ?_
   refine At.next ?_
   refine At.region ?_
   refine At.p (some 31) (P_add_i rfl rfl rfl (by omega)) ?_
   refine At.p (some 28) (P_move rfl rfl) ?_
   refine At.nil ?_
   refine At.next ?_
   refine At.to [(6, _), (7, _), (9, _), (28, _)] [(6, _), (7, _), (9, _)] (AllL.cons_ (rfl) (AllL.cons_ (rfl) (AllL.cons_ (rfl) (AllL.cons_ (rfl) trivial)))) (AllL.cons_ (rfl) (AllL.cons_ (rfl) (AllL.cons_ (rfl) trivial))) ?_
   exact hKc0 _ _ _ (by omega) ⟨i + 1, rfl, rfl, rfl, by omega⟩
  · -- cond 29 f
   obtain rfl : i = 10 := by simp at h29; omega
   refine At.exit ?_
   refine At.thn_e ?_
   refine At.thn_e ?_
   refine At.inb_hit ?_
   refine At.next ?_
   refine At.seq ?_
   refine At.region ?_
   refine At.s (S_alloc (some 10) 20 (zs := (outTo (mixN 10 (initS key count nonce)) (initS key count nonce) 0).map u8V) rfl ze156 rfl (fun b20 => ?_))
   refine At.nil ?_
   refine At.next ?_
   refine At.seq ?_
   refine At.seq ?_
   refine At.region ?_
   refine At.p (some 32) (P_move rfl rfl) ?_
   refine At.nil ?_
   refine At.next ?_
   refine At.block ?_
   refine At.loopx (I := fun m fr H => ∃ i, m = 64 - i ∧ fr = frOf [(6, ptr b6 0), (7, ptr b7 0), (9, ptr b9 0), (10, ptr b20 0), (32, iV (i : Int))] ∧ H = hOf [(6, ⟨true, b6, 0, 156, (List.replicate 64 0#8).map u8V, 0⟩), (7, ⟨true, b7, 0, 178, (mixN 10 (initS key count nonce)).map u32V, 0⟩), (9, ⟨true, b9, 0, 178, (initS key count nonce).map u32V, 0⟩), (20, ⟨true, b20, 0, 156, (outTo (mixN 10 (initS key count nonce)) (initS key count nonce) i).map u8V, 0⟩)] ∧ i ≤ 64) ?_ ?_
   ·
    intro Kc1 hKc1
    refine At.to [(6, _), (7, _), (9, _), (10, _), (32, _)] [(6, _), (7, _), (9, _), (20, _)] (AllL.cons_ (rfl) (AllL.cons_ (rfl) (AllL.cons_ (rfl) (AllL.cons_ (rfl) (AllL.cons_ (rfl) trivial))))) (AllL.cons_ (rfl) (AllL.cons_ (rfl) (AllL.cons_ (rfl) (AllL.cons_ (rfl) trivial)))) ?_
    exact hKc1 _ _ _ ⟨0, rfl, rfl, rfl, by omega⟩
   ·
    rintro m fr H ⟨i, rfl, rfl, rfl, hi⟩ Kc1 hKc1
    refine At.seq ?_
    refine At.region ?_
    refine At.p (some 33) (P_cmp rfl rfl rfl rfl rfl rfl) ?_
    refine At.nil ?_
    refine At.next ?_
    refine At.seq ?_
    refine At.cond rfl (fun h33 => ?_) (fun h33 => ?_)
    · -- cond 33 t
     have hlt : i < 64 := by simp at h33; omega
     refine At.skip ?_
     refine At.next ?_
     refine At.seq ?_
     refine At.block ?_
     refine At.seq ?_
     refine At.region ?_
     refine At.p (some 34) (P_move rfl rfl) ?_
     refine At.p (some 11) (P_assign rfl rfl) ?_
     refine At.nil ?_
     refine At.next ?_
     have hI2 : (mixN 10 (initS key count nonce)).length = 16 := by rw [mixN_len]; exact hI
     have hO : (outTo (mixN 10 (initS key count nonce)) (initS key count nonce) i).length = 64 := outTo_len hi
     refine At.draws 15 [] [.q false [0, 1, 2, 3, 4, 5, 6, 7, 8, 9, 10, 11, 12, 13, 14]] (by kernel_rfl) (by kernel_rfl) ?_
     refine At.wp (some 35) (P_move rfl rfl) ?_
     refine At.wp (some 36) (P_move rfl rfl) ?_
     refine At.wp (some 37) (P_quo_i rfl rfl rfl (by omega) (by omega) (by first | decide | omega)) ?_
     refine At.wp (some 38) (P_indexAddr_arr1 (j := i / 4) rfl Try.underlying178 sz104 rfl rfl (by omega) (by omega)) ?_
     refine At.wq (some 39) (Q_loadM (k := 7) (0#32) rfl rfl Try.underlying104 rfl rfl WD) ?_
     refine At.wp (some 40) (P_move rfl rfl) ?_
     refine At.wp (some 41) (P_quo_i rfl rfl rfl (by omega) (by omega) (by first | decide | omega)) ?_
     refine At.wp (some 42) (P_indexAddr_arr1 (j := i / 4) rfl Try.underlying178 sz104 rfl rfl (by omega) (by omega)) ?_
     refine At.wq (some 43) (Q_loadM (k := 9) (0#32) rfl rfl Try.underlying104 rfl rfl WD) ?_
     refine At.wp (some 44) (P_add_w UK.u32 rfl rfl rfl) ?_
     refine At.wp (some 45) (P_move rfl rfl) ?_
     refine At.wp (some 46) (P_rem_i rfl rfl rfl (by omega) (by first | decide | omega)) ?_
     refine At.wp (some 47) (P_mul_i rfl rfl rfl (by omega)) ?_
     refine At.wp (some 48) (P_shr_w UK.u32 (n := 32) rfl rfl rfl (by first | decide | omega)) ?_
     refine At.wp (some 49) (P_conv_ww UK.u8 (m := 32) rfl Try.underlying104 Try.underlying5 rfl) ?_
     refine At.wqn ?_
     refine At.wt rfl ?_
     refine At.p (some 50) (P_indexAddr_arr1 rfl Try.underlying156 sz5 rfl rfl rfl (by omega)) ?_
     refine At.s (S_storeM none (f := u8V) (k := 20) rfl rfl rfl sz5 rfl rfl rfl WD ?_)
     refine At.nil ?_
     refine At.inb_n ?_
     refine At.next ?_
     refine At.region ?_
     refine At.p (some 51) (P_add_i rfl rfl rfl (by omega)) ?_
     refine At.p (some 32) (P_move rfl rfl) ?_
     refine At.nil ?_
     refine At.next ?_
     refine At.to [(6, _), (7, _), (9, _), (10, _), (32, _)] [(6, _), (7, _), (9, _), (20, ⟨true, b20, 0, 156, (outTo (mixN 10 (initS key count nonce)) (initS key count nonce) (i + 1)).map u8V, 0⟩)] (AllL.cons_ (rfl) (AllL.cons_ (rfl) (AllL.cons_ (rfl) (AllL.cons_ (rfl) (AllL.cons_ (rfl) trivial))))) (AllL.cons_ (rfl) (AllL.cons_ (rfl) (AllL.cons_ (rfl) (AllL.cons_ (congrArg (fun l => some (⟨true, b20, 0, 156, List.map u8V l, 0⟩ : Row)) (by rw [← outTo_set hlt, show (8 * ((i : Int) % 4)).toNat = 8 * (i % 4) by omega]; rfl)) trivial)))) ?_
     exact hKc1 _ _ _ (by omega) ⟨i + 1, rfl, rfl, rfl, by omega⟩
    · -- cond 33 f
     obtain rfl : i = 64 := by simp at h33; omega
     have hO : (outTo (mixN 10 (initS key count nonce)) (initS key count nonce) 64).length = 64 := outTo_len hi
     refine At.exit ?_
     refine At.thn_e ?_
     refine At.thn_e ?_
     refine At.inb_hit ?_
     refine At.next ?_
     refine At.seq ?_
     refine At.region ?_
     refine At.q (some 52) (Q_loadA (k := 20) rfl rfl Try.underlying156 rfl sz156 WD rfl) ?_
     refine At.s (S_storeA none (k := 6) (vs := _) rfl rfl rfl (by first | (rw [sz156]; simp <;> omega) | exact sz156) rfl WA WB rfl WC ?_)
     refine At.nil ?_
     refine At.next ?_
     refine At.ret ?_
     refine At.giveV (.inl rfl) [] (rows' := []) (ResV.cellA (k := 6) rfl rfl Try.underlying156 rfl sz156 ((List.length_map u8V).trans hO) rfl) rfl (by simp) (by simp) ?_
     exact ⟨by simp [outTo, blockS, aggB], rfl⟩

def Z (x : BitVec 32) : BitVec 64 := x.setWidth 64
def leftF (x n : BitVec 64) : BitVec 64 := (x <<< n.toNat) % 4294967296#64 + x >>> (32#64 - n).toNat
theorem Z_nat (x : BitVec 32) : (Z x).toNat = x.toNat := by
 have := x.isLt
 simp [Z]; omega
theorem Z_add (x y : BitVec 32) : (Z x + Z y) % 4294967296#64 = Z (x + y) := by
 apply BitVec.eq_of_toNat_eq
 have := x.isLt
 have := y.isLt
 simp [Z]; omega
theorem Z_xor (x y : BitVec 32) : Z x ^^^ Z y = Z (x ^^^ y) := by
 apply BitVec.eq_of_toNat_eq
 rw [BitVec.toNat_xor, Z_nat, Z_nat, Z_nat, BitVec.toNat_xor]
theorem rot_nat (x : BitVec 32) {k : Nat} (h0 : 0 < k) (hk : k < 32) : (rotS x k).toNat = (x.toNat * 2 ^ k) % 2 ^ 32 + x.toNat / 2 ^ (32 - k) := by
 unfold rotS
 rw [BitVec.toNat_or, BitVec.toNat_shiftLeft, BitVec.toNat_ushiftRight, Nat.shiftRight_eq_div_pow, Nat.shiftLeft_eq]
 have hx := x.isLt
 have hb : x.toNat / 2 ^ (32 - k) < 2 ^ k := by
  rw [Nat.div_lt_iff_lt_mul (Nat.two_pow_pos _), ← Nat.pow_add, show k + (32 - k) = 32 by omega]
  exact hx
 have e : x.toNat * 2 ^ k % 2 ^ 32 = (x.toNat % 2 ^ (32 - k)) * 2 ^ k := by
  rw [show (2 : Nat) ^ 32 = 2 ^ (32 - k) * 2 ^ k by rw [← Nat.pow_add]; congr 1; omega, Nat.mul_mod_mul_right]
 rw [e, Nat.mul_comm _ (2 ^ k), ← Nat.two_pow_add_eq_or_of_lt hb]
theorem Z_left (x : BitVec 32) {k : Nat} (h0 : 0 < k) (hk : k < 32) : leftF (Z x) (BitVec.ofNat 64 k) = Z (rotS x k) := by
 apply BitVec.eq_of_toNat_eq
 have hx := x.isLt
 have e1 : (BitVec.ofNat 64 k).toNat = k := by simp; omega
 have e2 : (32#64 - BitVec.ofNat 64 k).toNat = 32 - k := by simp [BitVec.toNat_sub]; omega
 have hp : x.toNat * 2 ^ k < 2 ^ 64 := by
  calc x.toNat * 2 ^ k < 2 ^ 32 * 2 ^ k := Nat.mul_lt_mul_of_pos_right hx (Nat.two_pow_pos _)
   _ = 2 ^ (32 + k) := by rw [Nat.pow_add]
   _ ≤ 2 ^ 64 := Nat.pow_le_pow_right (by decide) (by omega)
 have hq : x.toNat / 2 ^ (32 - k) < 2 ^ 32 := Nat.lt_of_le_of_lt (Nat.div_le_self _ _) hx
 rw [Z_nat, rot_nat x h0 hk, leftF, e1, e2, BitVec.toNat_add, BitVec.toNat_umod, BitVec.toNat_shiftLeft, BitVec.toNat_ushiftRight, Z_nat, Nat.shiftLeft_eq, Nat.shiftRight_eq_div_pow, Nat.mod_eq_of_lt hp]
 have : x.toNat * 2 ^ k % 2 ^ 32 < 2 ^ 32 := Nat.mod_lt _ (by decide)
 have e3 : (4294967296#64).toNat = 2 ^ 32 := rfl
 rw [e3]
 generalize x.toNat * 2 ^ k % 2 ^ 32 = A at *
 generalize x.toNat / 2 ^ (32 - k) = B at *
 omega
theorem Z_out (x y : BitVec 32) (n : Nat) : (((Z x + Z y) % 4294967296#64) >>> n).setWidth 8 = ((x + y) >>> n).setWidth 8 := by
 rw [Z_add]
 apply BitVec.eq_of_toNat_eq
 simp [Z_nat]






theorem leW_step {a : Nat} {n : Nat} (b : BitVec 8) (h : a < 2 ^ (8 * n)) (hn : n < 4) (w : BitVec 32) (hw : w.toNat = a) : (w ||| (b.setWidth 32) <<< (8 * n)).toNat = a + b.toNat * 2 ^ (8 * n) := by
 have hb := b.isLt
 have hb2 : b.toNat % 2 ^ 32 = b.toNat := Nat.mod_eq_of_lt (by omega)
 have hlt : b.toNat * 2 ^ (8 * n) < 2 ^ 32 := by
  have h1 : b.toNat * 2 ^ (8 * n) < 2 ^ 8 * 2 ^ (8 * n) := Nat.mul_lt_mul_of_pos_right hb (Nat.two_pow_pos _)
  rw [← Nat.pow_add] at h1
  exact Nat.lt_of_lt_of_le h1 (Nat.pow_le_pow_right (by decide) (by omega))
 rw [BitVec.toNat_or, BitVec.toNat_shiftLeft, BitVec.toNat_setWidth, Nat.shiftLeft_eq, hw, hb2, Nat.mod_eq_of_lt hlt, Nat.or_comm, Nat.mul_comm, ← Nat.two_pow_add_eq_or_of_lt h, Nat.add_comm]
theorem leW4 (l : List (BitVec 8)) (o : Nat) : (leW l o 4).toNat = (l.getD o 0#8).toNat + (l.getD (o + 1) 0#8).toNat * 256 + (l.getD (o + 2) 0#8).toNat * 65536 + (l.getD (o + 3) 0#8).toNat * 16777216 := by
 have h0 := (l.getD o 0#8).isLt
 have h1 := (l.getD (o + 1) 0#8).isLt
 have h2 := (l.getD (o + 2) 0#8).isLt
 have e0 := leW_step (n := 0) (a := 0) (l.getD (o + 0) 0#8) (by decide) (by decide) 0#32 rfl
 have e1 := leW_step (n := 1) (l.getD (o + 1) 0#8) (by simp at h0 ⊢; omega) (by decide) _ e0
 have e2 := leW_step (n := 2) (l.getD (o + 2) 0#8) (by simp at h0 h1 ⊢; omega) (by decide) _ e1
 have e3 := leW_step (n := 3) (l.getD (o + 3) 0#8) (by simp at h0 h1 h2 ⊢; omega) (by decide) _ e2
 show (leW l o 4).toNat = _
 unfold leW leW leW leW leW
 rw [e3]
 simp
theorem leW_congr {l l' : List (BitVec 8)} {o o' : Nat} : ∀ (n : Nat), (∀ j < n, l.getD (o + j) 0#8 = l'.getD (o' + j) 0#8) → leW l o n = leW l' o' n
 | 0, _ => rfl
 | n + 1, h => by
  unfold leW
  rw [leW_congr n fun j hj => h j (by omega), h n (by omega)]
theorem wordsOf_app {x y : List (BitVec 8)} {m : Nat} (hx : x.length = m * 4) : wordsOf (x ++ y) = wordsOf x ++ wordsOf y := by
 unfold wordsOf wordsTo
 apply List.ext_getElem
 · simp [hx]; omega
 ·
  intro i h1 h2
  simp only [List.length_map, List.length_range] at h1
  rw [List.getElem_map, List.getElem_range]
  rw [List.getElem_append]
  split
  ·
   rename_i h3
   simp only [List.length_map, List.length_range] at h3
   rw [List.getElem_map, List.getElem_range]
   unfold wordAt
   have e : min 4 ((x ++ y).length - i * 4) = min 4 (x.length - i * 4) := by simp; omega
   rw [e]
   refine leW_congr _ fun j hj => ?_
   rw [List.getD_eq_getElem?_getD, List.getD_eq_getElem?_getD, List.getElem?_append_left (by omega)]
  ·
   rename_i h3
   simp only [List.length_map, List.length_range] at h3
   rw [List.getElem_map, List.getElem_range]
   simp only [List.length_map, List.length_range]
   unfold wordAt
   have e : min 4 ((x ++ y).length - i * 4) = min 4 (y.length - (i - (x.length + 4 - 1) / 4) * 4) := by simp; omega
   rw [e]
   refine leW_congr _ fun j hj => ?_
   rw [List.getD_eq_getElem?_getD, List.getD_eq_getElem?_getD, List.getElem?_append_right (by omega)]
   congr 2
   omega
def cntB (c : BitVec 32) : List (BitVec 8) := [c.setWidth 8, (c >>> 8).setWidth 8, (c >>> 16).setWidth 8, (c >>> 24).setWidth 8]
theorem wordsOf_cnt (c : BitVec 32) : wordsOf (cntB c) = [c] := by
 unfold wordsOf wordsTo
 rw [show (cntB c).length = 4 from rfl]
 show [wordAt (cntB c) 0] = [c]
 congr 1
 show leW (cntB c) 0 4 = c
 apply BitVec.eq_of_toNat_eq
 rw [leW4]
 have := c.isLt
 simp [cntB]
 simp only [Nat.shiftRight_eq_div_pow]
 omega
def hC (B : List (BitVec 8)) (w : Nat) : Nat → BitVec 64
 | 0 => 0#64
 | r + 1 => hC B w r * 256#64 + (B.getD (4 * w + (3 - r)) 0#8).setWidth 64
theorem hC4 (B : List (BitVec 8)) (w : Nat) : hC B w 4 = Z (leW B (w * 4) 4) := by
 apply BitVec.eq_of_toNat_eq
 rw [Z_nat, leW4]
 have h0 := (B.getD (w * 4) 0#8).isLt
 have h1 := (B.getD (w * 4 + 1) 0#8).isLt
 have h2 := (B.getD (w * 4 + 2) 0#8).isLt
 have h3 := (B.getD (w * 4 + 3) 0#8).isLt
 unfold hC hC hC hC hC
 rw [Nat.mul_comm 4 w]
 simp only [BitVec.toNat_add, BitVec.toNat_mul, BitVec.toNat_setWidth, Nat.sub_zero, Nat.sub_self, Nat.add_zero, show 3 - 1 = 2 from rfl, show 3 - 2 = 1 from rfl, BitVec.toNat_ofNat]
 omega
def hToQ (B : List (BitVec 8)) (k w : Nat) : BitVec 64 := hC B w (4 - min 4 (k - 4 * w))
def sToQ (B : List (BitVec 8)) (k : Nat) : List (BitVec 64) := (List.range 16).map (hToQ B k)
theorem sTo_lenQ (B : List (BitVec 8)) (k : Nat) : (sToQ B k).length = 16 := by simp [sToQ]
theorem sTo_64 (B : List (BitVec 8)) : sToQ B 64 = List.replicate 16 0#64 := by
 apply List.ext_getElem (by simp [sToQ])
 intro i h1 h2
 simp only [sToQ, List.getElem_map, List.getElem_range, List.getElem_replicate, hToQ]
 have : i < 16 := by simpa [sToQ] using h1
 rw [show 4 - min 4 (64 - 4 * i) = 0 by omega]
 rfl
theorem sTo_step (B : List (BitVec 8)) {k : Nat} (h0 : 0 < k) (hk : k ≤ 64) :
  (sToQ B k).set ((k - 1) / 4) ((sToQ B k).getD ((k - 1) / 4) 0#64 * 256#64 + (B.getD (k - 1) 0#8).setWidth 64) = sToQ B (k - 1) := by
 have hlt : (k - 1) / 4 < 16 := by omega
 have hg : (sToQ B k).getD ((k - 1) / 4) 0#64 = hToQ B k ((k - 1) / 4) := by simp [sToQ, hlt]
 rw [hg]
 apply List.ext_getElem (by simp [sToQ])
 intro i h1 h2
 have hi : i < 16 := by simpa [sToQ] using h2
 rw [List.getElem_set]
 split
 ·
  rename_i he
  subst he
  simp only [sToQ, List.getElem_map, List.getElem_range, hToQ]
  have e : 4 - min 4 (k - 1 - 4 * ((k - 1) / 4)) = (4 - min 4 (k - 4 * ((k - 1) / 4))) + 1 := by omega
  rw [e]
  show _ = hC B _ _ * 256#64 + _
  congr 3
  omega
 ·
  rename_i hne
  simp only [sToQ, List.getElem_map, List.getElem_range, hToQ]
  congr 1
  omega
theorem sTo_0 {B : List (BitVec 8)} (hB : B.length = 64) : sToQ B 0 = (wordsOf B).map Z := by
 unfold wordsOf wordsTo sToQ
 rw [hB, List.map_map]
 apply List.map_congr_left
 intro i hi
 have hi : i < 16 := by simpa using hi
 show hToQ B 0 i = Z (wordAt B i)
 unfold hToQ wordAt
 rw [hB, show min 4 (64 - i * 4) = 4 by omega, show 4 - min 4 (0 - 4 * i) = 4 by omega]
 exact hC4 B i
def byk (i : Nat) : Nat := [16, 12, 8, 7].getD i 0
def qStep (s : List (BitVec 32)) (x y z k : Nat) : List (BitVec 32) :=
 let s := s.set x (s.getD x 0#32 + s.getD y 0#32)
 s.set z (rotS (s.getD z 0#32 ^^^ s.getD x 0#32) k)
def qN (s : List (BitVec 32)) (a b c d : Nat) : Nat → List (BitVec 32)
 | 0 => s
 | n + 1 => if n % 2 = 1 then qStep (qN s a b c d n) c d b (byk n) else qStep (qN s a b c d n) a b d (byk n)
theorem qN_len (s : List (BitVec 32)) (a b c d n : Nat) : (qN s a b c d n).length = s.length := by
 induction n with
 | zero => rfl
 | succ n ih => unfold qN; split <;> simp [qStep, ih]
theorem Z_getD (s : List (BitVec 32)) (i : Nat) : (s.map Z).getD i 0#64 = Z (s.getD i 0#32) := by
 rw [List.getD_eq_getElem?_getD, List.getD_eq_getElem?_getD, List.getElem?_map]
 cases s[i]? <;> rfl
theorem Z_set (s : List (BitVec 32)) (i : Nat) (v : BitVec 32) : (s.map Z).set i (Z v) = (s.set i v).map Z := List.map_set.symm
theorem Z_step (s : List (BitVec 32)) (x y z : Nat) {i : Nat} (hi : i < 4) :
  ((s.map Z).set x (((s.map Z).getD x 0#64 + (s.map Z).getD y 0#64) % 4294967296#64)).set z (leftF (((s.map Z).set x (((s.map Z).getD x 0#64 + (s.map Z).getD y 0#64) % 4294967296#64)).getD z 0#64 ^^^ ((s.map Z).set x (((s.map Z).getD x 0#64 + (s.map Z).getD y 0#64) % 4294967296#64)).getD x 0#64) ([16#64, 12#64, 8#64, 7#64].getD i 0#64)) = (qStep s x y z (byk i)).map Z := by
 have hb : [16#64, 12#64, 8#64, 7#64].getD i 0#64 = BitVec.ofNat 64 (byk i) ∧ 0 < byk i ∧ byk i < 32 := by
  match i, hi with
  | 0, _ => exact ⟨rfl, by decide, by decide⟩
  | 1, _ => exact ⟨rfl, by decide, by decide⟩
  | 2, _ => exact ⟨rfl, by decide, by decide⟩
  | 3, _ => exact ⟨rfl, by decide, by decide⟩
 rw [Z_getD, Z_getD, Z_add, Z_set, Z_getD, Z_getD, Z_xor, hb.1, Z_left _ hb.2.1 hb.2.2, Z_set]
 rfl
def rN : Nat → List (BitVec 32) → List (BitVec 32)
 | 0, s => s
 | n + 1, s => rndS (n % 2) 4 (rN n s)
theorem rN_len (n : Nat) (s : List (BitVec 32)) : (rN n s).length = s.length := by
 induction n with
 | zero => rfl
 | succ n ih => simp [rN, rndS_len, ih]
theorem rN_mix (n : Nat) (s : List (BitVec 32)) : rN (2 * n) s = mixN n s := by
 induction n with
 | zero => rfl
 | succ n ih =>
  show rndS ((2 * n + 1) % 2) 4 (rndS ((2 * n) % 2) 4 (rN (2 * n) s)) = mixS (mixN n s)
  rw [show (2 * n + 1) % 2 = 1 by omega, show (2 * n) % 2 = 0 by omega, ih]
  rfl
def blockB (key : List (BitVec 8)) (count : BitVec 32) (nonce : List (BitVec 8)) : List (BitVec 8) := expandB ++ key ++ cntB count ++ nonce
theorem blockB_len {key nonce : List (BitVec 8)} (c : BitVec 32) (hk : key.length = 32) (hn : nonce.length = 12) : (blockB key c nonce).length = 64 := by simp [blockB, expandB, cntB, hk, hn]
theorem blockB_words {key nonce : List (BitVec 8)} (c : BitVec 32) (hk : key.length = 32) : wordsOf (blockB key c nonce) = initS key c nonce := by
 unfold blockB initS
 rw [wordsOf_app (m := 13) (by simp [expandB, cntB, hk]), wordsOf_app (m := 12) (by simp [expandB, hk]), wordsOf_app (m := 4) rfl, wordsOf_cnt]
theorem out_ref (s : List (BitVec 32)) (i : Nat) : ((((s.map Z).getD (i / 4) 0#64 + ((rN 20 s).map Z).getD (i / 4) 0#64) % 4294967296#64) >>> (8 * ((i : Int) % 4)).toNat).setWidth 8 = outAt (mixN 10 s) s i := by
 rw [Z_getD, Z_getD, Z_out, show (8 * ((i : Int) % 4)).toNat = 8 * (i % 4) by omega, show rN 20 s = mixN 10 s from rN_mix 10 s, BitVec.add_comm]
 rfl

theorem r_cut (x : BitVec 64) :
  Con Try.prog 142 [u64V x] [] (fun v rs => v = u64V (x % 4294967296#64) ∧ rs = []) := by
 refine Con.enter Try.func142 Try.ntmps142 (Nat.le_of_ble_eq_true rfl) rfl fun w => ?_
 refine At.seq ?_
 refine At.region ?_
 refine At.p (some 2) (P_assign rfl rfl) ?_
 refine At.nil ?_
 refine At.next ?_
 refine At.seq ?_
 refine At.region ?_
 refine At.p (some 3) (P_move rfl rfl) ?_
 refine At.p (some 4) (P_rem_w UK.u64 (b := 4294967296#64) rfl rfl rfl (by decide)) ?_
 refine At.p (some 2) (P_assign rfl rfl) ?_
 refine At.nil ?_
 refine At.next ?_
 refine At.ret ?_
 refine At.give (.inl rfl) [] (rows' := []) (vs := [_]) rfl ⟨rfl, trivial⟩ rfl (by simp) (by simp) ⟨rfl, rfl⟩

theorem r_left (x n : BitVec 64) :
  Con Try.prog 147 [u64V x, u64V n] [] (fun v rs => v = u64V (leftF x n) ∧ rs = []) := by
 refine Con.enter Try.func147 Try.ntmps147 (Nat.le_of_ble_eq_true rfl) rfl fun w => ?_
 refine At.seq ?_
 refine At.region ?_
 refine At.p (some 4) (P_assign rfl rfl) ?_
 refine At.nil ?_
 refine At.next ?_
 refine At.seq ?_
 refine At.region ?_
 refine At.p (some 5) (P_move rfl rfl) ?_
 refine At.p (some 6) (P_move rfl rfl) ?_
 refine At.p (some 7) (P_shl_w UK.u64 (n := 64) rfl rfl rfl (by first | decide | omega)) ?_
 refine At.s (S_callV (some 8) [] [] (vs := [_]) rfl en142 rfl V0 (by simp) (r_cut _) (by rintro _ _ ⟨rfl, rfl⟩; rfl) ?_)
 rintro _ _ ⟨rfl, rfl⟩
 refine At.p (some 9) (P_move rfl rfl) ?_
 refine At.p (some 10) (P_move rfl rfl) ?_
 refine At.p (some 11) (P_sub_w UK.u64 (a := 32#64) rfl rfl rfl) ?_
 refine At.p (some 12) (P_shr_w UK.u64 (n := 64) rfl rfl rfl (by first | decide | omega)) ?_
 refine At.p (some 13) (P_add_w UK.u64 rfl rfl rfl) ?_
 refine At.p (some 4) (P_assign rfl rfl) ?_
 refine At.nil ?_
 refine At.next ?_
 refine At.ret ?_
 refine At.give (.inl rfl) [] (rows' := []) (vs := [_]) rfl ⟨rfl, trivial⟩ rfl (by simp) (by simp) ⟨?_, rfl⟩
 simp only [leftF, retV, Int.toNat_natCast]

theorem r_quarter (s : List (BitVec 32)) (hs : s.length = 16) (a b c d : Nat) (ha : a < 16) (hb : b < 16) (hc : c < 16) (hd : d < 16) :
  Con Try.prog 141 [.agg ((s.map Z).map u64V).toArray, .agg #[iV (a : Int), iV (b : Int), iV (c : Int), iV (d : Int)]] [] (fun v rs => v = .agg (((qS s a b c d).map Z).map u64V).toArray ∧ rs = []) := by
 refine Con.enter Try.func141 Try.ntmps141 (Nat.le_of_ble_eq_true rfl) rfl fun w => ?_
 refine At.seq ?_
 refine At.region ?_
 refine At.s (S_box (some 2) 2 (zs := (s.map Z).map u64V) rfl rfl rfl (fun b2 => ?_))
 refine At.s (S_box (some 3) 3 (zs := [iV (a : Int), iV (b : Int), iV (c : Int), iV (d : Int)]) rfl rfl rfl (fun b3 => ?_))
 refine At.s (S_alloc (some 4) 4 (zs := (List.replicate 16 0#64).map u64V) rfl ze186 rfl (fun b4 => ?_))
 refine At.nil ?_
 refine At.next ?_
 refine At.seq ?_
 refine At.region ?_
 refine At.p (some 10) (P_build_arr (cs := ([16#64, 12#64, 8#64, 7#64].map u64V).toArray) (parts := _) (vs := [(0, _), (1, _), (2, _), (3, _)]) rfl Try.underlying198 sz66 ze198 rfl rfl) ?_
 refine At.s (S_alloc (some 5) 5 (zs := (List.replicate 4 0#64).map u64V) rfl ze198 rfl (fun b5 => ?_))
 refine At.s (S_storeA none (k := 5) (vs := _) rfl rfl rfl (by first | (rw [sz198]; simp <;> omega) | exact sz198) rfl WA WB rfl WC ?_)
 refine At.nil ?_
 refine At.next ?_
 refine At.seq ?_
 refine At.seq ?_
 refine At.region ?_
 refine At.p (some 6) (P_assign rfl rfl) ?_
 refine At.nil ?_
 refine At.next ?_
 refine At.block ?_
 refine At.loopx (I := fun m fr H => ∃ i, m = 4 - i ∧ fr = frOf [(2, ptr b2 0), (3, ptr b3 0), (4, ptr b4 0), (5, ptr b5 0), (6, iV (i : Int))] ∧ H = hOf [(2, ⟨true, b2, 0, 186, ((qN s a b c d i).map Z).map u64V, 0⟩), (3, ⟨true, b3, 0, 188, [iV (a : Int), iV (b : Int), iV (c : Int), iV (d : Int)], 0⟩), (4, ⟨true, b4, 0, 186, (List.replicate 16 0#64).map u64V, 0⟩), (5, ⟨true, b5, 0, 198, [16#64, 12#64, 8#64, 7#64].map u64V, 0⟩)] ∧ i ≤ 4) ?_ ?_
 ·
  intro Kc0 hKc0
  refine At.to [(2, _), (3, _), (4, _), (5, _), (6, _)] [(2, _), (3, _), (4, _), (5, _)] (AllL.cons_ (rfl) (AllL.cons_ (rfl) (AllL.cons_ (rfl) (AllL.cons_ (rfl) (AllL.cons_ (rfl) trivial))))) (AllL.cons_ (rfl) (AllL.cons_ (rfl) (AllL.cons_ (rfl) (AllL.cons_ (rfl) trivial)))) ?_
  exact hKc0 _ _ _ ⟨0, rfl, rfl, rfl, by omega⟩
 ·
  rintro m fr H ⟨i, rfl, rfl, rfl, hi⟩ Kc0 hKc0
  refine At.seq ?_
  refine At.seq ?_
  refine At.region ?_
  refine At.p (some 11) (P_move rfl rfl) ?_
  refine At.p (some 12) (P_cmp rfl rfl rfl rfl rfl rfl) ?_
  refine At.nil ?_
  refine At.next ?_
  refine At.cond rfl (fun h12 => ?_) (fun h12 => ?_)
  · -- cond 12 t
   have hlt : i < 4 := by simp at h12; omega
   have hl : (qN s a b c d i).length = 16 := by rw [qN_len]; exact hs
   refine At.skip ?_
   refine At.next ?_
   refine At.seq ?_
   refine At.block ?_
   refine At.seq ?_
   refine At.draws 8 [] [.q false [0, 1, 2, 3, 4, 5, 6, 7]] (by kernel_rfl) (by kernel_rfl) ?_
   refine At.wp (some 15) (P_indexAddr_arr1 (j := 0) rfl Try.underlying188 sz3 rfl rfl rfl (by decide)) ?_
   refine At.wq (some 16) (Q_loadO (k := 3) rfl rfl Try.underlying3 rfl rfl rfl) ?_
   refine At.wp (some 17) (P_indexAddr_arr1 (j := 1) rfl Try.underlying188 sz3 rfl rfl rfl (by decide)) ?_
   refine At.wq (some 18) (Q_loadO (k := 3) rfl rfl Try.underlying3 rfl rfl rfl) ?_
   refine At.wp (some 19) (P_indexAddr_arr1 (j := 3) rfl Try.underlying188 sz3 rfl rfl rfl (by decide)) ?_
   refine At.wq (some 20) (Q_loadO (k := 3) rfl rfl Try.underlying3 rfl rfl rfl) ?_
   refine At.wp (some 7) (P_assign rfl rfl) ?_
   refine At.wp (some 8) (P_assign rfl rfl) ?_
   refine At.wqn ?_
   refine At.wt rfl ?_
   refine At.p (some 9) (P_assign rfl rfl) ?_
   refine At.nil ?_
   refine At.next ?_
   refine At.seq ?_
   refine At.seq ?_
   refine At.region ?_
   refine At.p (some 21) (P_move rfl rfl) ?_
   refine At.p (some 22) (P_rem_i rfl rfl rfl (by omega) (by first | decide | omega)) ?_
   refine At.p (some 23) (P_cmp rfl rfl rfl rfl rfl rfl) ?_
   refine At.nil ?_
   refine At.next ?_
   refine At.cond rfl (fun h23 => ?_) (fun h23 => ?_)
   · -- cond 23 t
    have hif : (if i % 2 = 1 then qStep (qN s a b c d i) c d b (byk i) else qStep (qN s a b c d i) a b d (byk i)) = qStep (qN s a b c d i) c d b (byk i) := if_pos (by simp at h23; omega)
    refine At.draws 8 [] [.q false [0, 1, 2, 3, 4, 5, 6, 7]] (by kernel_rfl) (by kernel_rfl) ?_
    refine At.wp (some 24) (P_indexAddr_arr1 (j := 2) rfl Try.underlying188 sz3 rfl rfl rfl (by decide)) ?_
    refine At.wq (some 25) (Q_loadO (k := 3) rfl rfl Try.underlying3 rfl rfl rfl) ?_
    refine At.wp (some 26) (P_indexAddr_arr1 (j := 3) rfl Try.underlying188 sz3 rfl rfl rfl (by decide)) ?_
    refine At.wq (some 27) (Q_loadO (k := 3) rfl rfl Try.underlying3 rfl rfl rfl) ?_
    refine At.wp (some 28) (P_indexAddr_arr1 (j := 1) rfl Try.underlying188 sz3 rfl rfl rfl (by decide)) ?_
    refine At.wq (some 29) (Q_loadO (k := 3) rfl rfl Try.underlying3 rfl rfl rfl) ?_
    refine At.wp (some 7) (P_assign rfl rfl) ?_
    refine At.wp (some 8) (P_assign rfl rfl) ?_
    refine At.wqn ?_
    refine At.wt rfl ?_
    refine At.p (some 9) (P_assign rfl rfl) ?_
    refine At.nil ?_
    refine At.next ?_
    refine At.seq ?_
    refine At.draws 9 [] [.q false [0, 1, 2, 3, 4, 5, 6, 7, 8]] (by kernel_rfl) (by kernel_rfl) ?_
    refine At.wp (some 30) (P_move rfl rfl) ?_
    refine At.wp (some 31) (P_move rfl rfl) ?_
    refine At.wp (some 32) (P_indexAddr_arr1 rfl Try.underlying186 sz66 rfl rfl rfl (by omega)) ?_
    refine At.wq (some 33) (Q_loadM (k := 2) (0#64) rfl rfl Try.underlying66 rfl rfl WD) ?_
    refine At.wp (some 34) (P_move rfl rfl) ?_
    refine At.wp (some 35) (P_indexAddr_arr1 rfl Try.underlying186 sz66 rfl rfl rfl (by omega)) ?_
    refine At.wq (some 36) (Q_loadM (k := 2) (0#64) rfl rfl Try.underlying66 rfl rfl WD) ?_
    refine At.wp (some 37) (P_add_w UK.u64 rfl rfl rfl) ?_
    refine At.wcV (some 38) [] (vs := [_]) rfl en142 rfl V0 (r_cut _) ?_
    refine At.wqn ?_
    refine At.wt rfl ?_
    refine At.p (some 39) (P_indexAddr_arr1 rfl Try.underlying186 sz66 rfl rfl rfl (by omega)) ?_
    refine At.s (S_storeM none (f := u64V) (k := 2) rfl rfl rfl sz66 rfl rfl rfl WD ?_)
    refine At.nil ?_
    refine At.next ?_
    refine At.draws 12 [] [.q false [0, 1, 2, 3, 4, 5, 6, 7, 8, 9, 10, 11]] (by kernel_rfl) (by kernel_rfl) ?_
    refine At.wp (some 40) (P_move rfl rfl) ?_
    refine At.wp (some 41) (P_move rfl rfl) ?_
    refine At.wp (some 42) (P_indexAddr_arr1 rfl Try.underlying186 sz66 rfl rfl rfl (by omega)) ?_
    refine At.wq (some 43) (Q_loadM (k := 2) (0#64) rfl rfl Try.underlying66 rfl rfl WD) ?_
    refine At.wp (some 44) (P_move rfl rfl) ?_
    refine At.wp (some 45) (P_indexAddr_arr1 rfl Try.underlying186 sz66 rfl rfl rfl (by omega)) ?_
    refine At.wq (some 46) (Q_loadM (k := 2) (0#64) rfl rfl Try.underlying66 rfl rfl WD) ?_
    refine At.wp (some 47) (P_xor_w UK.u64 rfl rfl rfl) ?_
    refine At.wp (some 48) (P_move rfl rfl) ?_
    refine At.wp (some 49) (P_indexAddr_arr1 rfl Try.underlying198 sz66 rfl rfl rfl (by omega)) ?_
    refine At.wq (some 50) (Q_loadM (k := 5) (0#64) rfl rfl Try.underlying66 rfl rfl WD) ?_
    refine At.wcV (some 51) [] (vs := [_, _]) rfl en147 rfl V0 (r_left _ _) ?_
    refine At.wqn ?_
    refine At.wt rfl ?_
    refine At.p (some 52) (P_indexAddr_arr1 rfl Try.underlying186 sz66 rfl rfl rfl (by omega)) ?_
    refine At.s (S_storeM none (f := u64V) (k := 2) rfl rfl rfl sz66 rfl rfl rfl WD ?_)
    refine At.nil ?_
    refine At.inb_n ?_
    refine At.next ?_
    refine At.region ?_
    refine At.p (some 13) (P_move rfl rfl) ?_
    refine At.p (some 14) (P_add_i rfl rfl rfl (by omega)) ?_
    refine At.p (some 6) (P_assign rfl rfl) ?_
    refine At.nil ?_
    refine At.next ?_
    refine At.to [(2, _), (3, _), (4, _), (5, _), (6, _)] [(2, ⟨true, b2, 0, 186, ((qN s a b c d (i + 1)).map Z).map u64V, 0⟩), (3, _), (4, _), (5, _)] (AllL.cons_ (rfl) (AllL.cons_ (rfl) (AllL.cons_ (rfl) (AllL.cons_ (rfl) (AllL.cons_ (rfl) trivial))))) (AllL.cons_ (by rw [qN, hif]; exact congrArg (fun l => some (⟨true, b2, 0, 186, List.map u64V l, 0⟩ : Row)) (Z_step (qN s a b c d i) _ _ _ hlt)) (AllL.cons_ (rfl) (AllL.cons_ (rfl) (AllL.cons_ (rfl) trivial)))) ?_
    exact hKc0 _ _ _ (by omega) ⟨i + 1, rfl, rfl, rfl, by omega⟩
   · -- cond 23 f
    have hif : (if i % 2 = 1 then qStep (qN s a b c d i) c d b (byk i) else qStep (qN s a b c d i) a b d (byk i)) = qStep (qN s a b c d i) a b d (byk i) := if_neg (by simp at h23; omega)
    refine At.skip ?_
    refine At.next ?_
    refine At.seq ?_
    refine At.draws 9 [] [.q false [0, 1, 2, 3, 4, 5, 6, 7, 8]] (by kernel_rfl) (by kernel_rfl) ?_
    refine At.wp (some 30) (P_move rfl rfl) ?_
    refine At.wp (some 31) (P_move rfl rfl) ?_
    refine At.wp (some 32) (P_indexAddr_arr1 rfl Try.underlying186 sz66 rfl rfl rfl (by omega)) ?_
    refine At.wq (some 33) (Q_loadM (k := 2) (0#64) rfl rfl Try.underlying66 rfl rfl WD) ?_
    refine At.wp (some 34) (P_move rfl rfl) ?_
    refine At.wp (some 35) (P_indexAddr_arr1 rfl Try.underlying186 sz66 rfl rfl rfl (by omega)) ?_
    refine At.wq (some 36) (Q_loadM (k := 2) (0#64) rfl rfl Try.underlying66 rfl rfl WD) ?_
    refine At.wp (some 37) (P_add_w UK.u64 rfl rfl rfl) ?_
    refine At.wcV (some 38) [] (vs := [_]) rfl en142 rfl V0 (r_cut _) ?_
    refine At.wqn ?_
    refine At.wt rfl ?_
    refine At.p (some 39) (P_indexAddr_arr1 rfl Try.underlying186 sz66 rfl rfl rfl (by omega)) ?_
    refine At.s (S_storeM none (f := u64V) (k := 2) rfl rfl rfl sz66 rfl rfl rfl WD ?_)
    refine At.nil ?_
    refine At.next ?_
    refine At.draws 12 [] [.q false [0, 1, 2, 3, 4, 5, 6, 7, 8, 9, 10, 11]] (by kernel_rfl) (by kernel_rfl) ?_
    refine At.wp (some 40) (P_move rfl rfl) ?_
    refine At.wp (some 41) (P_move rfl rfl) ?_
    refine At.wp (some 42) (P_indexAddr_arr1 rfl Try.underlying186 sz66 rfl rfl rfl (by omega)) ?_
    refine At.wq (some 43) (Q_loadM (k := 2) (0#64) rfl rfl Try.underlying66 rfl rfl WD) ?_
    refine At.wp (some 44) (P_move rfl rfl) ?_
    refine At.wp (some 45) (P_indexAddr_arr1 rfl Try.underlying186 sz66 rfl rfl rfl (by omega)) ?_
    refine At.wq (some 46) (Q_loadM (k := 2) (0#64) rfl rfl Try.underlying66 rfl rfl WD) ?_
    refine At.wp (some 47) (P_xor_w UK.u64 rfl rfl rfl) ?_
    refine At.wp (some 48) (P_move rfl rfl) ?_
    refine At.wp (some 49) (P_indexAddr_arr1 rfl Try.underlying198 sz66 rfl rfl rfl (by omega)) ?_
    refine At.wq (some 50) (Q_loadM (k := 5) (0#64) rfl rfl Try.underlying66 rfl rfl WD) ?_
    refine At.wcV (some 51) [] (vs := [_, _]) rfl en147 rfl V0 (r_left _ _) ?_
    refine At.wqn ?_
    refine At.wt rfl ?_
    refine At.p (some 52) (P_indexAddr_arr1 rfl Try.underlying186 sz66 rfl rfl rfl (by omega)) ?_
    refine At.s (S_storeM none (f := u64V) (k := 2) rfl rfl rfl sz66 rfl rfl rfl WD ?_)
    refine At.nil ?_
    refine At.inb_n ?_
    refine At.next ?_
    refine At.region ?_
    refine At.p (some 13) (P_move rfl rfl) ?_
    refine At.p (some 14) (P_add_i rfl rfl rfl (by omega)) ?_
    refine At.p (some 6) (P_assign rfl rfl) ?_
    refine At.nil ?_
    refine At.next ?_
    refine At.to [(2, _), (3, _), (4, _), (5, _), (6, _)] [(2, ⟨true, b2, 0, 186, ((qN s a b c d (i + 1)).map Z).map u64V, 0⟩), (3, _), (4, _), (5, _)] (AllL.cons_ (rfl) (AllL.cons_ (rfl) (AllL.cons_ (rfl) (AllL.cons_ (rfl) (AllL.cons_ (rfl) trivial))))) (AllL.cons_ (by rw [qN, hif]; exact congrArg (fun l => some (⟨true, b2, 0, 186, List.map u64V l, 0⟩ : Row)) (Z_step (qN s a b c d i) _ _ _ hlt)) (AllL.cons_ (rfl) (AllL.cons_ (rfl) (AllL.cons_ (rfl) trivial)))) ?_
    exact hKc0 _ _ _ (by omega) ⟨i + 1, rfl, rfl, rfl, by omega⟩
  · -- cond 12 f
   obtain rfl : i = 4 := by simp at h12; omega
   have hl : (qN s a b c d 4).length = 16 := by rw [qN_len]; exact hs
   refine At.exit ?_
   refine At.thn_e ?_
   refine At.thn_e ?_
   refine At.inb_hit ?_
   refine At.next ?_
   refine At.seq ?_
   refine At.region ?_
   refine At.q (some 53) (Q_loadA (k := 2) rfl rfl Try.underlying186 rfl sz186 WD rfl) ?_
   refine At.s (S_storeA none (k := 4) (vs := _) rfl rfl rfl (by first | (rw [sz186]; simp <;> omega) | exact sz186) rfl WA WB rfl WC ?_)
   refine At.nil ?_
   refine At.next ?_
   refine At.ret ?_
   refine At.giveV (.inl rfl) [] (rows' := []) (ResV.cellA (k := 4) rfl rfl Try.underlying186 rfl sz186 (by simp [hl]) rfl) rfl (by simp) (by simp) ?_
   exact ⟨rfl, rfl⟩

theorem r_quarterI {s : List (BitVec 32)} (hs : s.length = 16) {a b c d : Nat} {ai bi ci di : Int} (ha : a < 16) (hb : b < 16) (hc : c < 16) (hd : d < 16) (ea : ai = (a : Int)) (eb : bi = (b : Int)) (ec : ci = (c : Int)) (ed : di = (d : Int)) :
  Con Try.prog 141 [.agg ((s.map Z).map u64V).toArray, .agg ([iV ai, iV bi, iV ci, iV di]).toArray] [] (fun v rs => v = .agg (((qS s a b c d).map Z).map u64V).toArray ∧ rs = []) := by
 subst ea eb ec ed
 exact r_quarter s hs a b c d ha hb hc hd

theorem r_Block (key nonce : List (BitVec 8)) (count : BitVec 32) (hkey : key.length = 32) (hnonce : nonce.length = 12) :
  Con Try.prog 114 [aggB key, u32V count, aggB nonce] [] (fun v rs => v = aggB (blockS key count nonce) ∧ rs = []) := by
 refine Con.enter Try.func114 Try.ntmps114 (Nat.le_of_ble_eq_true rfl) rfl fun w => ?_
 refine At.seq ?_
 have hI := initS_len count hkey hnonce
 have hB := blockB_len count hkey hnonce
 have hk32 : key.length = 32 := hkey
 refine At.region ?_
 refine At.s (S_box (some 3) 3 (zs := key.map u8V) rfl rfl rfl (fun b3 => ?_))
 refine At.s (S_box (some 5) 5 (zs := nonce.map u8V) rfl rfl rfl (fun b5 => ?_))
 refine At.s (S_alloc (some 6) 6 (zs := (List.replicate 64 0#8).map u8V) rfl ze156 rfl (fun b6 => ?_))
 refine At.nil ?_
 refine At.next ?_
 refine At.seq ?_
 refine At.region ?_
 refine At.s (S_buildSliceV (some 16) 7 [_, _, _, _, _, _, _, _, _, _, _, _, _, _, _, _] rfl Try.underlying23 sz5 ze5 rfl rfl (by decide) (by decide) rfl ⟨rfl, rfl, rfl, rfl, rfl, rfl, rfl, rfl, rfl, rfl, rfl, rfl, rfl, rfl, rfl, rfl⟩ (fun b7 => ?_))
 refine At.s (S_convB (some 17) (k := 7) rfl Try.underlying23 Try.underlying5 rfl rfl (by simp) ?_)
 refine At.p (some 7) (P_assign rfl rfl) ?_
 refine At.nil ?_
 refine At.next ?_
 refine At.seq ?_
 refine At.region ?_
 refine At.p (some 18) (P_move rfl rfl) ?_
 refine At.p (some 19) (P_slice_arr1 rfl Try.underlying22 sz5 rfl rfl rfl rfl (by omega) (by omega) (by omega) (by omega)) ?_
 refine At.s (S_appendM (some 20) 7 (expandB ++ key) (f := u8V) (l := expandB) (L := key) rfl Try.underlying23 Try.underlying23 (.inr ⟨_, rfl⟩) sz5 by5 ze5 rfl rfl (fun _ => ⟨rfl, rfl⟩) rfl (by decide) (Src.row (k := 3) (j := 0) rfl (fun _ => rfl) (fun _ => ⟨rfl, rfl, rfl⟩) (by simp [List.take_of_length_le, hkey]) (by simp [hkey])) (fun _ => rfl) (by decide) (by decide) rfl hkey ?_)
 intro A20 q20 c20 g20a g20b
 refine At.p (some 7) (P_assign rfl rfl) ?_
 refine At.nil ?_
 refine At.next ?_
 refine At.seq ?_
 refine At.region ?_
 refine At.p (some 21) (P_move rfl rfl) ?_
 refine At.p (some 22) (P_move rfl rfl) ?_
 refine At.p (some 23) (P_conv_ww UK.u8 (m := 32) rfl Try.underlying104 Try.underlying5 rfl) ?_
 refine At.p (some 24) (P_move rfl rfl) ?_
 refine At.p (some 25) (P_shr_w UK.u32 (n := 32) rfl rfl rfl (by first | decide | omega)) ?_
 refine At.p (some 26) (P_conv_ww UK.u8 (m := 32) rfl Try.underlying104 Try.underlying5 rfl) ?_
 refine At.p (some 27) (P_move rfl rfl) ?_
 refine At.p (some 28) (P_shr_w UK.u32 (n := 32) rfl rfl rfl (by first | decide | omega)) ?_
 refine At.p (some 29) (P_conv_ww UK.u8 (m := 32) rfl Try.underlying104 Try.underlying5 rfl) ?_
 refine At.p (some 30) (P_move rfl rfl) ?_
 refine At.p (some 31) (P_shr_w UK.u32 (n := 32) rfl rfl rfl (by first | decide | omega)) ?_
 refine At.p (some 32) (P_conv_ww UK.u8 (m := 32) rfl Try.underlying104 Try.underlying5 rfl) ?_
 refine At.s (S_buildSliceV (some 33) 13 [_, _, _, _] rfl Try.underlying23 sz5 ze5 rfl rfl (by decide) (by decide) rfl ⟨rfl, rfl, rfl, rfl⟩ (fun b13 => ?_))
 refine At.s (S_appendM (some 34) 7 (expandB ++ key ++ cntB count) (f := u8V) (l := expandB ++ key) (L := cntB count) rfl Try.underlying23 Try.underlying23 (.inr ⟨_, rfl⟩) sz5 by5 ze5 rfl rfl (fun h => ⟨g20a h, rfl⟩) rfl (by omega) (Src.row (k := 13) (j := 0) rfl (fun _ => rfl) (fun _ => ⟨rfl, rfl, rfl⟩) rfl rfl) (fun _ => rfl) (by simp only [List.length_append, hkey, hnonce, expandB, cntB, List.length_cons, List.length_nil]; decide) (by simp only [List.length_append, hkey, hnonce, expandB, cntB, List.length_cons, List.length_nil]; decide) rfl rfl ?_)
 intro A34 q34 c34 g34a g34b
 refine At.p (some 7) (P_assign rfl rfl) ?_
 refine At.nil ?_
 refine At.next ?_
 refine At.seq ?_
 refine At.region ?_
 refine At.p (some 35) (P_move rfl rfl) ?_
 refine At.p (some 36) (P_slice_arr1 rfl Try.underlying54 sz5 rfl rfl rfl rfl (by omega) (by omega) (by omega) (by omega)) ?_
 refine At.s (S_appendM (some 37) 7 ((blockB key count nonce)) (f := u8V) (l := expandB ++ key ++ cntB count) (L := nonce) rfl Try.underlying23 Try.underlying23 (.inr ⟨_, rfl⟩) sz5 by5 ze5 rfl rfl (fun h => ⟨g34a h, rfl⟩) rfl (by omega) (Src.row (k := 5) (j := 0) rfl (fun _ => rfl) (fun _ => ⟨rfl, rfl, rfl⟩) (by simp [List.take_of_length_le, hnonce]) (by simp [hnonce])) (fun _ => rfl) (by simp only [List.length_append, hkey, hnonce, expandB, cntB, List.length_cons, List.length_nil]; decide) (by simp only [List.length_append, hkey, hnonce, expandB, cntB, List.length_cons, List.length_nil]; decide) rfl hnonce ?_)
 intro A7 q7 c7 g7a g7b
 refine At.p (some 7) (P_assign rfl rfl) ?_
 refine At.nil ?_
 refine At.next ?_
 refine At.seq ?_
 refine At.region ?_
 refine At.s (S_alloc (some 8) 8 (zs := (List.replicate 16 0#64).map u64V) rfl ze186 rfl (fun b8 => ?_))
 refine At.nil ?_
 refine At.next ?_
 refine At.seq ?_
 refine At.seq ?_
 refine At.region ?_
 refine At.p (some 9) (P_assign rfl rfl) ?_
 refine At.nil ?_
 refine At.next ?_
 refine At.block ?_
 refine At.loopx (I := fun m fr H => ∃ k, m = 2 * k ∧ fr = frOf [(6, ptr b6 0), (7, .slice A7 (blockB key count nonce).length c7), (8, ptr b8 0), (9, iV ((k : Int) - 1))] ∧ H = hOf [(6, ⟨true, b6, 0, 156, (List.replicate 64 0#8).map u8V, 0⟩), (7, ⟨true, q7, 0, 5, (blockB key count nonce).map u8V, c7 - (blockB key count nonce).length⟩), (8, ⟨true, b8, 0, 186, (sToQ (blockB key count nonce) k).map u64V, 0⟩)] ∧ k ≤ 64) ?_ ?_
 ·
  intro Kc0 hKc0
  refine At.to [(6, _), (7, _), (8, _), (9, iV (((64 : Nat) : Int) - 1))] [(6, _), (7, _), (8, ⟨true, b8, 0, 186, (sToQ (blockB key count nonce) 64).map u64V, 0⟩)] (AllL.cons_ (rfl) (AllL.cons_ (rfl) (AllL.cons_ (rfl) (AllL.cons_ (rfl) trivial)))) (AllL.cons_ (rfl) (AllL.cons_ (rfl) (AllL.cons_ (by rw [sTo_64]; rfl) trivial))) ?_
  exact hKc0 _ _ _ ⟨64, rfl, rfl, rfl, by omega⟩
 ·
  rintro m fr H ⟨k, rfl, rfl, rfl, hk⟩ Kc0 hKc0
  refine At.seq ?_
  refine At.seq ?_
  refine At.region ?_
  refine At.p (some 38) (P_move rfl rfl) ?_
  refine At.p (some 39) (P_cmp rfl rfl rfl rfl rfl rfl) ?_
  refine At.nil ?_
  refine At.next ?_
  refine At.cond rfl (fun h39 => ?_) (fun h39 => ?_)
  · -- cond 39 t
   have hk0 : 0 < k := by simp at h39; omega
   refine At.skip ?_
   refine At.next ?_
   refine At.seq ?_
   refine At.block ?_
   have hsl : (sToQ (blockB key count nonce) k).length = 16 := sTo_lenQ _ _
   refine At.draws 13 [] [.q false [0, 1, 2, 3, 4, 5, 6, 7, 8, 9, 10, 11, 12]] (by kernel_rfl) (by kernel_rfl) ?_
   refine At.wp (some 42) (P_move rfl rfl) ?_
   refine At.wp (some 43) (P_quo_i rfl rfl rfl (by omega) (by omega) (by first | decide | omega)) ?_
   refine At.wp (some 44) (P_move rfl rfl) ?_
   refine At.wp (some 45) (P_quo_i rfl rfl rfl (by omega) (by omega) (by first | decide | omega)) ?_
   refine At.wp (some 46) (P_indexAddr_arr1 (j := (k - 1) / 4) rfl Try.underlying186 sz66 rfl rfl (by omega) (by omega)) ?_
   refine At.wq (some 47) (Q_loadM (k := 8) (0#64) rfl rfl Try.underlying66 rfl rfl WD) ?_
   refine At.wp (some 48) (P_mul_w UK.u64 (b := 256#64) rfl rfl rfl) ?_
   refine At.wp (some 49) (P_move rfl rfl) ?_
   refine At.wp (some 50) (P_move rfl rfl) ?_
   refine At.wp (some 51) (P_indexAddr_slz (j := k - 1) rfl Try.underlying23 sz5 rfl (g7a (by omega)) rfl (by omega) (by omega)) ?_
   refine At.wq (some 52) (Q_loadM (k := 7) (0#8) rfl rfl Try.underlying5 rfl rfl WD) ?_
   refine At.wp (some 53) (P_conv_ww UK.u64 (m := 8) rfl Try.underlying5 Try.underlying66 rfl) ?_
   refine At.wp (some 54) (P_add_w UK.u64 rfl rfl rfl) ?_
   refine At.wqn ?_
   refine At.wt rfl ?_
   refine At.p (some 55) (P_indexAddr_arr1 (j := (k - 1) / 4) rfl Try.underlying186 sz66 rfl rfl (by omega) (by omega)) ?_
   refine At.s (S_storeM none (f := u64V) (k := 8) rfl rfl rfl sz66 rfl rfl rfl WD ?_)
   refine At.nil ?_
   refine At.inb_n ?_
   refine At.next ?_
   refine At.region ?_
   refine At.p (some 40) (P_move rfl rfl) ?_
   refine At.p (some 41) (P_sub_i rfl rfl rfl (by omega)) ?_
   refine At.p (some 9) (P_assign rfl rfl) ?_
   refine At.nil ?_
   refine At.next ?_
   refine At.to [(6, _), (7, _), (8, _), (9, iV (((k - 1 : Nat) : Int) - 1))] [(6, _), (7, _), (8, ⟨true, b8, 0, 186, (sToQ (blockB key count nonce) (k - 1)).map u64V, 0⟩)] (AllL.cons_ (rfl) (AllL.cons_ (rfl) (AllL.cons_ (rfl) (AllL.cons_ (by rw [show (((k - 1 : Nat) : Int) - 1) = (k : Int) - 1 - 1 by omega]; rfl) trivial)))) (AllL.cons_ (rfl) (AllL.cons_ (rfl) (AllL.cons_ (congrArg (fun l => some (⟨true, b8, 0, 186, List.map u64V l, 0⟩ : Row)) (sTo_step (blockB key count nonce) hk0 hk)) trivial))) ?_
   exact hKc0 _ _ _ (by omega) ⟨k - 1, rfl, rfl, rfl, by omega⟩
  · -- cond 39 f
   obtain rfl : k = 0 := by simp at h39; omega
   refine At.exit ?_
   refine At.thn_e ?_
   refine At.thn_e ?_
   refine At.inb_hit ?_
   refine At.next ?_
   refine At.seq ?_
   rw [show sToQ (blockB key count nonce) 0 = (initS key count nonce).map Z from by rw [sTo_0 hB, blockB_words count hkey]]
   refine At.region ?_
   refine At.q (some 56) (Q_loadA (k := 8) rfl rfl Try.underlying186 rfl sz186 WD rfl) ?_
   refine At.s (S_alloc (some 10) 10 (zs := (List.replicate 16 0#64).map u64V) rfl ze186 rfl (fun b10 => ?_))
   refine At.s (S_storeA none (k := 10) (vs := _) rfl rfl rfl (by first | (rw [sz186]; simp <;> omega) | exact sz186) rfl WA WB rfl WC ?_)
   refine At.nil ?_
   refine At.next ?_
   refine At.seq ?_
   refine At.seq ?_
   refine At.region ?_
   refine At.p (some 11) (P_assign rfl rfl) ?_
   refine At.nil ?_
   refine At.next ?_
   refine At.block ?_
   refine At.loopx (I := fun m fr H => ∃ r, m = 20 - r ∧ fr = frOf [(6, ptr b6 0), (8, ptr b8 0), (10, ptr b10 0), (11, iV (r : Int))] ∧ H = hOf [(6, ⟨true, b6, 0, 156, (List.replicate 64 0#8).map u8V, 0⟩), (8, ⟨true, b8, 0, 186, ((initS key count nonce).map Z).map u64V, 0⟩), (10, ⟨true, b10, 0, 186, ((rN r (initS key count nonce)).map Z).map u64V, 0⟩)] ∧ r ≤ 20) ?_ ?_
   ·
    intro Kc1 hKc1
    refine At.to [(6, _), (8, _), (10, _), (11, _)] [(6, _), (8, _), (10, _)] (AllL.cons_ (rfl) (AllL.cons_ (rfl) (AllL.cons_ (rfl) (AllL.cons_ (rfl) trivial)))) (AllL.cons_ (rfl) (AllL.cons_ (rfl) (AllL.cons_ (rfl) trivial))) ?_
    exact hKc1 _ _ _ ⟨0, rfl, rfl, rfl, by omega⟩
   ·
    rintro m fr H ⟨r, rfl, rfl, rfl, hr⟩ Kc1 hKc1
    refine At.seq ?_
    refine At.seq ?_
    refine At.region ?_
    refine At.p (some 57) (P_move rfl rfl) ?_
    refine At.p (some 58) (P_cmp rfl rfl rfl rfl rfl rfl) ?_
    refine At.nil ?_
    refine At.next ?_
    refine At.cond rfl (fun h58 => ?_) (fun h58 => ?_)
    · -- cond 58 t
     have hlt : r < 20 := by simp at h58; omega
     refine At.skip ?_
     refine At.next ?_
     refine At.seq ?_
     refine At.block ?_
     refine At.seq ?_
     refine At.region ?_
     refine At.p (some 12) (P_assign rfl rfl) ?_
     refine At.nil ?_
     refine At.next ?_
     refine At.block ?_
     refine At.loopx (I := fun m fr H => ∃ i, m = 4 - i ∧ fr = frOf [(6, ptr b6 0), (8, ptr b8 0), (10, ptr b10 0), (11, iV (r : Int)), (12, iV (i : Int))] ∧ H = hOf [(6, ⟨true, b6, 0, 156, (List.replicate 64 0#8).map u8V, 0⟩), (8, ⟨true, b8, 0, 186, ((initS key count nonce).map Z).map u64V, 0⟩), (10, ⟨true, b10, 0, 186, ((rndS (r % 2) i (rN r (initS key count nonce))).map Z).map u64V, 0⟩)] ∧ i ≤ 4) ?_ ?_
     ·
      intro Kc2 hKc2
      refine At.to [(6, _), (8, _), (10, _), (11, _), (12, _)] [(6, _), (8, _), (10, ⟨true, b10, 0, 186, ((rndS (r % 2) 0 (rN r (initS key count nonce))).map Z).map u64V, 0⟩)] (AllL.cons_ (rfl) (AllL.cons_ (rfl) (AllL.cons_ (rfl) (AllL.cons_ (rfl) (AllL.cons_ (rfl) trivial))))) (AllL.cons_ (rfl) (AllL.cons_ (rfl) (AllL.cons_ (rfl) trivial))) ?_
      exact hKc2 _ _ _ ⟨0, rfl, rfl, rfl, by omega⟩
     ·
      rintro m fr H ⟨i, rfl, rfl, rfl, hi⟩ Kc2 hKc2
      refine At.seq ?_
      refine At.seq ?_
      refine At.region ?_
      refine At.p (some 61) (P_move rfl rfl) ?_
      refine At.p (some 62) (P_cmp rfl rfl rfl rfl rfl rfl) ?_
      refine At.nil ?_
      refine At.next ?_
      refine At.cond rfl (fun h62 => ?_) (fun h62 => ?_)
      · -- cond 62 t
       have hlt2 : i < 4 := by simp at h62; omega
       have hR : (rndS (r % 2) i (rN r (initS key count nonce))).length = 16 := by rw [rndS_len, rN_len]; exact hI
       have hQ : (qS (rndS (r % 2) i (rN r (initS key count nonce))) i (4 + (i + r % 2) % 4) (8 + (i + 2 * (r % 2)) % 4) (12 + (i + 3 * (r % 2)) % 4)).length = 16 := by rw [qS_len]; exact hR
       refine At.skip ?_
       refine At.next ?_
       refine At.seq ?_
       refine At.block ?_
       refine At.seq ?_
       refine At.region ?_
       refine At.p (some 65) (P_move rfl rfl) ?_
       refine At.p (some 66) (P_rem_i rfl rfl rfl (by omega) (by first | decide | omega)) ?_
       refine At.p (some 13) (P_assign rfl rfl) ?_
       refine At.nil ?_
       refine At.next ?_
       refine At.region ?_
       refine At.q (some 67) (Q_loadA (k := 10) rfl rfl Try.underlying186 rfl sz186 WD rfl) ?_
       refine At.p (some 68) (P_move rfl rfl) ?_
       refine At.p (some 69) (P_move rfl rfl) ?_
       refine At.p (some 70) (P_move rfl rfl) ?_
       refine At.p (some 71) (P_add_i rfl rfl rfl (by omega)) ?_
       refine At.p (some 72) (P_rem_i rfl rfl rfl (by omega) (by first | decide | omega)) ?_
       refine At.p (some 73) (P_add_i rfl rfl rfl (by omega)) ?_
       refine At.p (some 74) (P_move rfl rfl) ?_
       refine At.p (some 75) (P_move rfl rfl) ?_
       refine At.p (some 76) (P_mul_i rfl rfl rfl (by omega)) ?_
       refine At.p (some 77) (P_add_i rfl rfl rfl (by omega)) ?_
       refine At.p (some 78) (P_rem_i rfl rfl rfl (by omega) (by first | decide | omega)) ?_
       refine At.p (some 79) (P_add_i rfl rfl rfl (by omega)) ?_
       refine At.p (some 80) (P_move rfl rfl) ?_
       refine At.p (some 81) (P_move rfl rfl) ?_
       refine At.p (some 82) (P_mul_i rfl rfl rfl (by omega)) ?_
       refine At.p (some 83) (P_add_i rfl rfl rfl (by omega)) ?_
       refine At.p (some 84) (P_rem_i rfl rfl rfl (by omega) (by first | decide | omega)) ?_
       refine At.p (some 85) (P_add_i rfl rfl rfl (by omega)) ?_
       refine At.p (some 86) (P_build_arr (cs := ([iV (i : Int), iV (4 + ((i : Int) + (r : Int) % 2) % 4), iV (8 + ((i : Int) + 2 * ((r : Int) % 2)) % 4), iV (12 + ((i : Int) + 3 * ((r : Int) % 2)) % 4)]).toArray) (parts := _) (vs := [(0, _), (1, _), (2, _), (3, _)]) rfl Try.underlying188 sz3 ze188 rfl rfl) ?_
       refine At.s (S_callV (some 87) [] [] (vs := [_, _]) rfl en141 rfl V0 (by simp) (r_quarterI (by rw [rndS_len, rN_len]; exact hI) (a := i) (b := 4 + (i + r % 2) % 4) (c := 8 + (i + 2 * (r % 2)) % 4) (d := 12 + (i + 3 * (r % 2)) % 4) (by omega) (by omega) (by omega) (by omega) rfl (by omega) (by omega) (by omega)) (by rintro _ _ ⟨rfl, rfl⟩; rfl) ?_)
       rintro _ _ ⟨rfl, rfl⟩
       refine At.s (S_storeA none (k := 10) (vs := _) rfl rfl rfl (by first | (rw [sz186]; simp <;> omega) | exact sz186) rfl WA WB rfl WC ?_)
       refine At.nil ?_
       refine At.inb_n ?_
       refine At.next ?_
       refine At.region ?_
       refine At.p (some 63) (P_move rfl rfl) ?_
       refine At.p (some 64) (P_add_i rfl rfl rfl (by omega)) ?_
       refine At.p (some 12) (P_assign rfl rfl) ?_
       refine At.nil ?_
       refine At.next ?_
       refine At.to [(6, _), (8, _), (10, _), (11, _), (12, _)] [(6, _), (8, _), (10, ⟨true, b10, 0, 186, ((rndS (r % 2) (i + 1) (rN r (initS key count nonce))).map Z).map u64V, 0⟩)] (AllL.cons_ (rfl) (AllL.cons_ (rfl) (AllL.cons_ (rfl) (AllL.cons_ (rfl) (AllL.cons_ (rfl) trivial))))) (AllL.cons_ (rfl) (AllL.cons_ (rfl) (AllL.cons_ (congrArg (fun l => some (⟨true, b10, 0, 186, List.map u64V (List.map Z l), 0⟩ : Row)) (by rw [rndS])) trivial))) ?_
       exact hKc2 _ _ _ (by omega) ⟨i + 1, rfl, rfl, rfl, by omega⟩
      · -- cond 62 f
       obtain rfl : i = 4 := by simp at h62; omega
       refine At.exit ?_
       refine At.thn_e ?_
       refine At.thn_e ?_
       refine At.inb_hit ?_
       refine At.inb_n ?_
       refine At.next ?_
       refine At.region ?_
       refine At.p (some 59) (P_move rfl rfl) ?_
       refine At.p (some 60) (P_add_i rfl rfl rfl (by omega)) ?_
       refine At.p (some 11) (P_assign rfl rfl) ?_
       refine At.nil ?_
       refine At.next ?_
       refine At.to [(6, _), (8, _), (10, _), (11, _)] [(6, _), (8, _), (10, ⟨true, b10, 0, 186, ((rN (r + 1) (initS key count nonce)).map Z).map u64V, 0⟩)] (AllL.cons_ (rfl) (AllL.cons_ (rfl) (AllL.cons_ (rfl) (AllL.cons_ (rfl) trivial)))) (AllL.cons_ (rfl) (AllL.cons_ (rfl) (AllL.cons_ (rfl) trivial))) ?_
       exact hKc1 _ _ _ (by omega) ⟨r + 1, rfl, rfl, rfl, by omega⟩
    · -- cond 58 f
     obtain rfl : r = 20 := by simp at h58; omega
     refine At.exit ?_
     refine At.thn_e ?_
     refine At.thn_e ?_
     refine At.inb_hit ?_
     refine At.next ?_
     refine At.seq ?_
     refine At.region ?_
     refine At.s (S_alloc (some 14) 14 (zs := (outTo (mixN 10 (initS key count nonce)) (initS key count nonce) 0).map u8V) rfl ze156 rfl (fun b14 => ?_))
     refine At.nil ?_
     refine At.next ?_
     refine At.seq ?_
     refine At.seq ?_
     refine At.region ?_
     refine At.p (some 15) (P_assign rfl rfl) ?_
     refine At.nil ?_
     refine At.next ?_
     refine At.block ?_
     refine At.loopx (I := fun m fr H => ∃ i, m = 64 - i ∧ fr = frOf [(6, ptr b6 0), (8, ptr b8 0), (10, ptr b10 0), (14, ptr b14 0), (15, iV (i : Int))] ∧ H = hOf [(6, ⟨true, b6, 0, 156, (List.replicate 64 0#8).map u8V, 0⟩), (8, ⟨true, b8, 0, 186, ((initS key count nonce).map Z).map u64V, 0⟩), (10, ⟨true, b10, 0, 186, ((rN 20 (initS key count nonce)).map Z).map u64V, 0⟩), (14, ⟨true, b14, 0, 156, (outTo (mixN 10 (initS key count nonce)) (initS key count nonce) i).map u8V, 0⟩)] ∧ i ≤ 64) ?_ ?_
     ·
      intro Kc3 hKc3
      refine At.to [(6, _), (8, _), (10, _), (14, _), (15, _)] [(6, _), (8, _), (10, _), (14, _)] (AllL.cons_ (rfl) (AllL.cons_ (rfl) (AllL.cons_ (rfl) (AllL.cons_ (rfl) (AllL.cons_ (rfl) trivial))))) (AllL.cons_ (rfl) (AllL.cons_ (rfl) (AllL.cons_ (rfl) (AllL.cons_ (rfl) trivial)))) ?_
      exact hKc3 _ _ _ ⟨0, rfl, rfl, rfl, by omega⟩
     ·
      rintro m fr H ⟨i, rfl, rfl, rfl, hi⟩ Kc3 hKc3
      refine At.seq ?_
      refine At.seq ?_
      refine At.region ?_
      refine At.p (some 88) (P_move rfl rfl) ?_
      refine At.p (some 89) (P_cmp rfl rfl rfl rfl rfl rfl) ?_
      refine At.nil ?_
      refine At.next ?_
      refine At.cond rfl (fun h89 => ?_) (fun h89 => ?_)
      · -- cond 89 t
       have hlt : i < 64 := by simp at h89; omega
       have hR20 : (rN 20 (initS key count nonce)).length = 16 := by rw [rN_len]; exact hI
       have hO : (outTo (mixN 10 (initS key count nonce)) (initS key count nonce) i).length = 64 := outTo_len hi
       refine At.skip ?_
       refine At.next ?_
       refine At.seq ?_
       refine At.block ?_
       refine At.draws 16 [] [.q false [0, 1, 2, 3, 4, 5, 6, 7, 8, 9, 10, 11, 12, 13, 14, 15]] (by kernel_rfl) (by kernel_rfl) ?_
       refine At.wp (some 92) (P_move rfl rfl) ?_
       refine At.wp (some 93) (P_move rfl rfl) ?_
       refine At.wp (some 94) (P_quo_i rfl rfl rfl (by omega) (by omega) (by first | decide | omega)) ?_
       refine At.wp (some 95) (P_indexAddr_arr1 (j := i / 4) rfl Try.underlying186 sz66 rfl rfl (by omega) (by omega)) ?_
       refine At.wq (some 96) (Q_loadM (k := 8) (0#64) rfl rfl Try.underlying66 rfl rfl WD) ?_
       refine At.wp (some 97) (P_move rfl rfl) ?_
       refine At.wp (some 98) (P_quo_i rfl rfl rfl (by omega) (by omega) (by first | decide | omega)) ?_
       refine At.wp (some 99) (P_indexAddr_arr1 (j := i / 4) rfl Try.underlying186 sz66 rfl rfl (by omega) (by omega)) ?_
       refine At.wq (some 100) (Q_loadM (k := 10) (0#64) rfl rfl Try.underlying66 rfl rfl WD) ?_
       refine At.wp (some 101) (P_add_w UK.u64 rfl rfl rfl) ?_
       refine At.wcV (some 102) [] (vs := [_]) rfl en142 rfl V0 (r_cut _) ?_
       refine At.wp (some 103) (P_move rfl rfl) ?_
       refine At.wp (some 104) (P_rem_i rfl rfl rfl (by omega) (by first | decide | omega)) ?_
       refine At.wp (some 105) (P_mul_i rfl rfl rfl (by omega)) ?_
       refine At.wp (some 106) (P_shr_w UK.u64 (n := 64) rfl rfl rfl (by first | decide | omega)) ?_
       refine At.wp (some 107) (P_conv_ww UK.u8 (m := 64) rfl Try.underlying66 Try.underlying5 rfl) ?_
       refine At.wqn ?_
       refine At.wt rfl ?_
       refine At.p (some 108) (P_indexAddr_arr1 rfl Try.underlying156 sz5 rfl rfl rfl (by omega)) ?_
       refine At.s (S_storeM none (f := u8V) (k := 14) rfl rfl rfl sz5 rfl rfl rfl WD ?_)
       refine At.nil ?_
       refine At.inb_n ?_
       refine At.next ?_
       refine At.region ?_
       refine At.p (some 90) (P_move rfl rfl) ?_
       refine At.p (some 91) (P_add_i rfl rfl rfl (by omega)) ?_
       refine At.p (some 15) (P_assign rfl rfl) ?_
       refine At.nil ?_
       refine At.next ?_
       refine At.to [(6, _), (8, _), (10, _), (14, _), (15, _)] [(6, _), (8, _), (10, _), (14, ⟨true, b14, 0, 156, (outTo (mixN 10 (initS key count nonce)) (initS key count nonce) (i + 1)).map u8V, 0⟩)] (AllL.cons_ (rfl) (AllL.cons_ (rfl) (AllL.cons_ (rfl) (AllL.cons_ (rfl) (AllL.cons_ (rfl) trivial))))) (AllL.cons_ (rfl) (AllL.cons_ (rfl) (AllL.cons_ (rfl) (AllL.cons_ (congrArg (fun l => some (⟨true, b14, 0, 156, List.map u8V l, 0⟩ : Row)) (by rw [out_ref, outTo_set hlt])) trivial)))) ?_
       exact hKc3 _ _ _ (by omega) ⟨i + 1, rfl, rfl, rfl, by omega⟩
      · -- cond 89 f
       obtain rfl : i = 64 := by simp at h89; omega
       have hO : (outTo (mixN 10 (initS key count nonce)) (initS key count nonce) 64).length = 64 := outTo_len hi
       refine At.exit ?_
       refine At.thn_e ?_
       refine At.thn_e ?_
       refine At.inb_hit ?_
       refine At.next ?_
       refine At.seq ?_
       refine At.region ?_
       refine At.q (some 109) (Q_loadA (k := 14) rfl rfl Try.underlying156 rfl sz156 WD rfl) ?_
       refine At.s (S_storeA none (k := 6) (vs := _) rfl rfl rfl (by first | (rw [sz156]; simp <;> omega) | exact sz156) rfl WA WB rfl WC ?_)
       refine At.nil ?_
       refine At.next ?_
       refine At.ret ?_
       refine At.giveV (.inl rfl) [] (rows' := []) (ResV.cellA (k := 6) rfl rfl Try.underlying156 rfl sz156 ((List.length_map u8V).trans hO) rfl) rfl (by simp) (by simp) ?_
       exact ⟨by simp [outTo, blockS, aggB], rfl⟩

def keyAt (key : List (BitVec 8)) (count : BitVec 32) (nonce : List (BitVec 8)) (m : Nat) : BitVec 8 := (blockS key (count + BitVec.ofNat 32 (m / 64)) nonce).getD (m % 64) 0#8
def strTo (l : List (BitVec 8)) (K : Nat → BitVec 8) (m : Nat) : List (BitVec 8) := (List.range m).map (fun j => l.getD j 0#8 ^^^ K j) ++ l.drop m
theorem strTo_len {l : List (BitVec 8)} {K : Nat → BitVec 8} {m : Nat} (h : m ≤ l.length) : (strTo l K m).length = l.length := by simp [strTo]; omega
theorem strTo_0 (l : List (BitVec 8)) (K : Nat → BitVec 8) : strTo l K 0 = l := by simp [strTo]
theorem strTo_at {l : List (BitVec 8)} {K : Nat → BitVec 8} {m : Nat} (h : m < l.length) : (strTo l K m).getD m 0#8 = l.getD m 0#8 := by
 simp [strTo, List.getD_eq_getElem?_getD, List.getElem?_append_right]
theorem strTo_set {l : List (BitVec 8)} {K : Nat → BitVec 8} {m : Nat} (h : m < l.length) : (strTo l K m).set m ((strTo l K m).getD m 0#8 ^^^ K m) = strTo l K (m + 1) := by
 rw [strTo_at h]
 unfold strTo
 rw [List.set_append_right _ _ (by simp)]
 simp only [List.length_map, List.length_range, Nat.sub_self]
 rw [List.drop_eq_getElem_cons h, List.set_cons_zero, List.range_succ]
 simp
def streamS (key : List (BitVec 8)) (count : BitVec 32) (nonce l : List (BitVec 8)) : List (BitVec 8) := (List.range l.length).map fun j => l.getD j 0#8 ^^^ keyAt key count nonce j
theorem streamS_len (key : List (BitVec 8)) (count : BitVec 32) (nonce l : List (BitVec 8)) : (streamS key count nonce l).length = l.length := by simp [streamS]
theorem strTo_all (key : List (BitVec 8)) (count : BitVec 32) (nonce l : List (BitVec 8)) {m : Nat} (h : m = l.length) : strTo l (keyAt key count nonce) m = streamS key count nonce l := by
 subst h
 simp [strTo, streamS]
theorem keyAt_chunk (key : List (BitVec 8)) (count : BitVec 32) (nonce : List (BitVec 8)) {i j : Nat} (hj : j < 64) : keyAt key count nonce (i * 64 + j) = (blockS key (count + BitVec.ofNat 32 i) nonce).getD j 0#8 := by
 unfold keyAt
 rw [show (i * 64 + j) / 64 = i by omega, show (i * 64 + j) % 64 = j by omega]

theorem c_CloneB (A : Option Addr) (n c bq q s0 s1 : Nat) (cs : List Value) (hA : 0 < n → A = some ⟨bq, q, none⟩) (hl : cs.length = n * 1) (h1 : ∀ u ∈ cs, u.oneCell' = true) (hn : n ≤ 1000000) :
  Con Try.prog 108 [.slice A n c] [⟨false, bq, q, s0, cs, s1⟩] (fun v rs => ∃ A' b' c', (0 < c' → A' = some ⟨b', 0, none⟩) ∧ n ≤ c' ∧ v = .slice A' n c' ∧ rs = [⟨true, b', 0, 5, cs, (c' - n) * 1⟩]) := by
 refine Con.enter Try.func108 Try.ntmps108 (Nat.le_of_ble_eq_true rfl) rfl fun w => ?_
 refine At.seq ?_
 refine At.region ?_
 refine At.p (some 2) (P_assign rfl rfl) ?_
 refine At.nil ?_
 refine At.next ?_
 refine At.seq ?_
 refine At.seq ?_
 refine At.region ?_
 refine At.p (some 3) (P_move rfl rfl) ?_
 refine At.p (some 4) (P_eql_slnil rfl Try.underlying23 rfl rfl) ?_
 refine At.nil ?_
 refine At.next ?_
 refine At.cond rfl (fun h4 => ?_) (fun h4 => ?_)
 · -- cond 4 t
  refine At.seq ?_
  refine At.region ?_
  refine At.p (some 2) (P_assign rfl rfl) ?_
  refine At.nil ?_
  refine At.next ?_
  refine At.ret ?_
  refine At.thn_r ?_
  have hn : n = 0 := Nat.eq_zero_of_not_pos (fun h => by have h2 := hA h; subst h2; cases h4)
  have hc : cs = [] := List.eq_nil_of_length_eq_zero (by simp [hl, hn])
  subst hn hc
  refine At.empty 1 0 5 ?_
  refine At.give (.inl rfl) [1] (rows' := [_]) (vs := [_]) rfl ⟨rfl, trivial⟩ rfl (by simp) (by simp) ⟨none, 0, 0, by simp, by simp, rfl, rfl⟩
 · -- cond 4 f
  refine At.skip ?_
  refine At.next ?_
  refine At.seq ?_
  refine At.region ?_
  refine At.s (S_buildSlice0 (some 5) 1 rfl Try.underlying23 sz5 (fun b1 => ?_))
  refine At.p (some 6) (P_move rfl rfl) ?_
  refine At.s (S_appendN (some 7) 1 n cs (cells := []) (rest := 0) (b := b1) rfl Try.underlying23 Try.underlying23 (.inr ⟨_, rfl⟩) sz5 by5 ze5 rfl rfl (fun h => absurd h (by omega)) rfl rfl (by omega) (Src.row (k := 0)  (b := bq) (q := q) rfl hA (fun _ => ⟨rfl, rfl, rfl⟩) (by rw [List.drop_zero, ← hl, List.take_length]) hl) h1 (by decide) (by omega) (by omega) (by omega) rfl ?_)
  intro A1 b1 c1 g1 g2
  refine At.p (some 2) (P_assign rfl rfl) ?_
  refine At.nil ?_
  refine At.next ?_
  refine At.ret ?_
  refine At.give (.inl rfl) [1] (rows' := [_]) (vs := [_]) rfl ⟨rfl, trivial⟩ rfl (by simp) (by simp) ⟨A1, b1, c1, g1, g2, rfl, rfl⟩

theorem c_Stream (key nonce l : List (BitVec 8)) (count : BitVec 32) (A : Option Addr) (ca bq q : Nat) (hkey : key.length = 32) (hnonce : nonce.length = 12) (hA : 0 < l.length → A = some ⟨bq, q, none⟩) (hl : l.length ≤ 1000000) :
  Con Try.prog 60 [aggB key, u32V count, aggB nonce, .slice A l.length ca] [bytesRow bq q l] (fun v rs => ∃ A2 b2 c2, (0 < c2 → A2 = some ⟨b2, 0, none⟩) ∧ l.length ≤ c2 ∧ v = .slice A2 l.length c2 ∧ rs = [⟨true, b2, 0, 5, (streamS key count nonce l).map u8V, c2 - l.length⟩]) := by
 refine Con.enterM Try.func60 Try.ntmps60 (Nat.le_of_ble_eq_true rfl) rfl fun w hS => ?_
 refine At.seq ?_
 have hk32 : key.length = 32 := hkey
 refine At.region ?_
 refine At.s (S_box (some 4) 4 (zs := key.map u8V) rfl rfl rfl (fun b4 => ?_))
 refine At.s (S_box (some 5) 5 rfl rfl rfl (fun b5 => ?_))
 refine At.s (S_box (some 6) 6 (zs := nonce.map u8V) rfl rfl rfl (fun b6 => ?_))
 refine At.p (some 8) (P_assign rfl rfl) ?_
 refine At.nil ?_
 refine At.next ?_
 refine At.seq ?_
 refine At.region ?_
 refine At.p (some 13) (P_move rfl rfl) ?_
 refine At.s (S_callV (some 14) [(0, _)] [7] (vs := [_]) rfl en108 rfl (VN (by simp) rfl View.all V0) (by simp) (c_CloneB A l.length ca bq q 0 0 (l.map u8V) hA (by simp) (by intro u hu; obtain ⟨z, _, rfl⟩ := List.mem_map.1 hu; rfl) hl) (by rintro _ _ ⟨A7, b7, c7, g7a, g7b, rfl, rfl⟩; rfl) ?_)
 rintro _ _ ⟨A7, b7, c7, g7a, g7b, rfl, rfl⟩
 refine At.p (some 9) (P_assign rfl rfl) ?_
 refine At.nil ?_
 refine At.next ?_
 refine At.seq ?_
 refine At.seq ?_
 refine At.region ?_
 refine At.p (some 15) (P_move rfl rfl) ?_
 refine At.s (S_callV (some 16) [] [8, 9] (vs := [_, _]) rfl en109 rfl V0 (by simp) (c_Chunk A7 l.length c7 64 (by decide)) (by rintro _ _ ⟨bs, bn, rfl, rfl⟩; rfl) ?_)
 rintro _ _ ⟨bs, bn, rfl, rfl⟩
 refine At.nil ?_
 refine At.next ?_
 refine At.block ?_
 refine At.to [(4, ptr b4 0), (5, ptr b5 0), (6, ptr b6 0), (9, .slice A7 l.length c7), (16, _)] [(4, _), (5, ⟨true, b5, 0, 104, [u32V (count + BitVec.ofNat 32 0)], 0⟩), (6, _), (7, ⟨true, b7, 0, 5, (strTo l (keyAt key count nonce) (min (0 * 64) l.length)).map u8V, (c7 - l.length) * 1⟩), (8, _), (9, _)] (AllL.cons_ (rfl) (AllL.cons_ (rfl) (AllL.cons_ (rfl) (AllL.cons_ (rfl) (AllL.cons_ (rfl) trivial))))) (AllL.cons_ (rfl) (AllL.cons_ (by rw [show count + BitVec.ofNat 32 0 = count from BitVec.add_zero _]; rfl) (AllL.cons_ (rfl) (AllL.cons_ (by rw [Nat.zero_mul, Nat.zero_min, strTo_0]; rfl) (AllL.cons_ (rfl) (AllL.cons_ (rfl) trivial)))))) ?_
 refine At.range (C2 bs bn (.slice A7 l.length c7) (iV ((64 : Nat) : Int))) (it_Chunk A7 l.length c7 64 bs bn (by decide) g7b (by omega) (by decide)) (fun i H => ∃ _u : Unit, H = hOf [(4, ⟨true, b4, 0, 22, key.map u8V, 0⟩), (5, ⟨true, b5, 0, 104, [u32V (count + BitVec.ofNat 32 i)], 0⟩), (6, ⟨true, b6, 0, 54, nonce.map u8V, 0⟩), (7, ⟨true, b7, 0, 5, (strTo l (keyAt key count nonce) (min (i * 64) l.length)).map u8V, (c7 - l.length) * 1⟩), (8, ⟨true, bs, 0, 23, [.slice A7 l.length c7], 0⟩), (9, ⟨true, bn, 0, 3, [iV ((64 : Nat) : Int)], 0⟩)] ∧ True) (fun H => False) (fun x => frOf [(4, ptr b4 0), (5, ptr b5 0), (6, ptr b6 0), (10, x)]) rfl en133 rfl hS ?_ ?_ ?_ ?_ ?_ ?_
 ·
  rintro i _ w ⟨_u, rfl, _⟩ hc hh
  exact ⟨hh.cell hc (k := 8) (j := 0) rfl rfl, hh.cell hc (k := 9) (j := 0) rfl rfl⟩
 · exact ⟨(), rfl, trivial⟩
 ·
  intro lR nR wbR XR x H' K hKa
  refine At.regionR (fun ⟨_, _, h⟩ => h) ?_
  refine At.p (some 10) (P_assign rfl rfl) ?_
  refine At.nil ?_
  refine At.next ?_
  exact At.toF [(4, _), (5, _), (6, _), (10, _)] (AllL.cons_ (rfl) (AllL.cons_ (rfl) (AllL.cons_ (rfl) (AllL.cons_ (rfl) trivial)))) hKa
 ·
  rintro lR nR wbR XR i x _ hx ⟨_u, rfl, _⟩ Q' hK hR hno
  obtain ⟨hlt, rfl⟩ := chunksV_some (by decide) hx
  have hbl := blockS_len key (count + BitVec.ofNat 32 i) nonce
  refine At.blockR ?_
  refine At.seqR ?_
  refine At.regionR (fun ⟨a, w, h⟩ => hno a w h) ?_
  refine At.q (some 18) (Q_loadA (k := 4) rfl rfl Try.underlying22 rfl sz22 WD rfl) ?_
  refine At.q (some 19) (Q_loadO (k := 5) rfl rfl Try.underlying104 rfl rfl rfl) ?_
  refine At.q (some 20) (Q_loadA (k := 6) rfl rfl Try.underlying54 rfl sz54 WD rfl) ?_
  refine At.s (S_callV (some 21) [] [] (vs := [_, _, _]) rfl en110 rfl V0 (by simp) (c_Block key nonce (count + BitVec.ofNat 32 i) hkey hnonce) (by rintro _ _ ⟨rfl, rfl⟩; rfl) ?_)
  rintro _ _ ⟨rfl, rfl⟩
  refine At.s (S_alloc (some 11) 10 (zs := (List.replicate 64 0#8).map u8V) rfl ze156 rfl (fun b10 => ?_))
  refine At.s (S_storeA none (k := 10) (vs := _) rfl rfl rfl (by first | (rw [sz156]; simp <;> omega) | exact sz156) rfl WA WB rfl WC ?_)
  refine At.nil ?_
  refine At.next ?_
  refine At.seqR ?_
  refine At.seqR ?_
  refine At.regionR (fun ⟨a, w, h⟩ => hno a w h) ?_
  refine At.p (some 22) (P_move rfl rfl) ?_
  refine At.p (some 23) (P_len_sl rfl rfl ⟨_, Try.underlying23⟩ rfl) ?_
  refine At.p (some 24) (P_move rfl rfl) ?_
  refine At.nil ?_
  refine At.next ?_
  refine At.blockR ?_
  refine At.loopxR (I := fun m fr H => ∃ j, m = min 64 (l.length - i * 64) - j ∧ fr = frOf [(4, ptr b4 0), (5, ptr b5 0), (6, ptr b6 0), (10, chunkV A7 l.length 64 i), (11, ptr b10 0), (23, iV ((min 64 (l.length - i * 64) : Nat) : Int)), (24, iV (j : Int))] ∧ H = hOf [(4, ⟨true, b4, 0, 22, key.map u8V, 0⟩), (5, ⟨true, b5, 0, 104, [u32V (count + BitVec.ofNat 32 i)], 0⟩), (6, ⟨true, b6, 0, 54, nonce.map u8V, 0⟩), (7, ⟨true, b7, 0, 5, (strTo l (keyAt key count nonce) (i * 64 + j)).map u8V, (c7 - l.length) * 1⟩), (8, ⟨true, bs, 0, 23, [.slice A7 l.length c7], 0⟩), (9, ⟨true, bn, 0, 3, [iV ((64 : Nat) : Int)], 0⟩), (10, ⟨true, b10, 0, 156, (blockS key (count + BitVec.ofNat 32 i) nonce).map u8V, 0⟩)] ∧ j ≤ min 64 (l.length - i * 64)) ?_ ?_
  ·
   intro Kc0 hKc0
   refine At.to [(4, _), (5, _), (6, _), (10, _), (11, _), (23, _), (24, _)] [(4, _), (5, _), (6, _), (7, ⟨true, b7, 0, 5, (strTo l (keyAt key count nonce) (i * 64 + 0)).map u8V, (c7 - l.length) * 1⟩), (8, _), (9, _), (10, _)] (AllL.cons_ (rfl) (AllL.cons_ (rfl) (AllL.cons_ (rfl) (AllL.cons_ (rfl) (AllL.cons_ (rfl) (AllL.cons_ (rfl) (AllL.cons_ (rfl) trivial))))))) (AllL.cons_ (rfl) (AllL.cons_ (rfl) (AllL.cons_ (rfl) (AllL.cons_ (by rw [show i * 64 + 0 = min (i * 64) l.length by omega]; rfl) (AllL.cons_ (rfl) (AllL.cons_ (rfl) (AllL.cons_ (rfl) trivial))))))) ?_
   exact hKc0 _ _ _ ⟨0, rfl, rfl, rfl, by omega⟩
  ·
   rintro m fr H ⟨j, rfl, rfl, rfl, hj⟩ Kc0 hKc0
   refine At.seqR ?_
   refine At.regionR (fun ⟨a, w, h⟩ => hno a w h) ?_
   refine At.p (some 25) (P_cmp rfl rfl rfl rfl rfl rfl) ?_
   refine At.nil ?_
   refine At.next ?_
   refine At.seqR ?_
   refine At.condR rfl (fun h25 => ?_) (fun h25 => ?_)
   · -- cond 25 t
    have hlt2 : j < min 64 (l.length - i * 64) := by simp at h25; omega
    have hsl : (strTo l (keyAt key count nonce) (i * 64 + j)).length = l.length := strTo_len (by omega)
    refine At.skipR ?_
    refine At.next ?_
    refine At.seqR ?_
    refine At.blockR ?_
    refine At.seqR ?_
    refine At.regionR (fun ⟨a, w, h⟩ => hno a w h) ?_
    refine At.p (some 26) (P_move rfl rfl) ?_
    refine At.p (some 12) (P_assign rfl rfl) ?_
    refine At.nil ?_
    refine At.next ?_
    refine At.drawsR 7 [] [.q false [0, 1, 2, 3, 4, 5, 6]] (by kernel_rfl) (by kernel_rfl) (fun ⟨a, w, h⟩ => hno a w h) ?_
    refine At.wp (some 27) (P_move rfl rfl) ?_
    refine At.wp (some 28) (P_move rfl rfl) ?_
    refine At.wp (some 29) (P_indexAddr_sl1 rfl Try.underlying23 sz5 rfl (chunk_addr0 (g7a (by omega)) _) rfl rfl (by omega)) ?_
    refine At.wq (some 30) (Q_loadM (k := 7) (0#8) rfl rfl Try.underlying5 rfl rfl WD) ?_
    refine At.wp (some 31) (P_move rfl rfl) ?_
    refine At.wp (some 32) (P_indexAddr_arr1 rfl Try.underlying156 sz5 rfl rfl rfl (by omega)) ?_
    refine At.wq (some 33) (Q_loadM (k := 10) (0#8) rfl rfl Try.underlying5 rfl rfl WD) ?_
    refine At.wqn ?_
    refine At.wt rfl ?_
    refine At.p (some 34) (P_xor_w UK.u8 rfl rfl rfl) ?_
    refine At.p (some 35) (P_indexAddr_sl1 rfl Try.underlying23 sz5 rfl (chunk_addr0 (g7a (by omega)) _) rfl rfl (by omega)) ?_
    refine At.s (S_storeM none (f := u8V) (k := 7) rfl rfl rfl sz5 rfl rfl rfl WD ?_)
    refine At.nil ?_
    refine At.inb_n ?_
    refine At.next ?_
    refine At.regionR (fun ⟨a, w, h⟩ => hno a w h) ?_
    refine At.p (some 36) (P_add_i rfl rfl rfl (by omega)) ?_
    refine At.p (some 24) (P_move rfl rfl) ?_
    refine At.nil ?_
    refine At.next ?_
    refine At.to [(4, _), (5, _), (6, _), (10, _), (11, _), (23, _), (24, _)] [(4, _), (5, _), (6, _), (7, ⟨true, b7, 0, 5, (strTo l (keyAt key count nonce) (i * 64 + (j + 1))).map u8V, (c7 - l.length) * 1⟩), (8, _), (9, _), (10, _)] (AllL.cons_ (rfl) (AllL.cons_ (rfl) (AllL.cons_ (rfl) (AllL.cons_ (rfl) (AllL.cons_ (rfl) (AllL.cons_ (rfl) (AllL.cons_ (rfl) trivial))))))) (AllL.cons_ (rfl) (AllL.cons_ (rfl) (AllL.cons_ (rfl) (AllL.cons_ (congrArg (fun z => some (⟨true, b7, 0, 5, List.map u8V z, (c7 - l.length) * 1⟩ : Row)) (by rw [← keyAt_chunk key count nonce (show j < 64 by omega), strTo_set (by omega)]; rfl)) (AllL.cons_ (rfl) (AllL.cons_ (rfl) (AllL.cons_ (rfl) trivial))))))) ?_
    exact hKc0 _ _ _ (by omega) ⟨j + 1, rfl, rfl, rfl, by omega⟩
   · -- cond 25 f
    obtain rfl : j = min 64 (l.length - i * 64) := by simp at h25; omega
    refine At.exitR ?_
    refine At.thn_e ?_
    refine At.thn_e ?_
    refine At.inb_hit ?_
    refine At.next ?_
    refine At.regionR (fun ⟨a, w, h⟩ => hno a w h) ?_
    refine At.q (some 37) (Q_loadO (k := 5) rfl rfl Try.underlying104 rfl rfl rfl) ?_
    refine At.p (some 38) (P_add_w UK.u32 (b := 1#32) rfl rfl rfl) ?_
    refine At.s (S_store none (k := 5) rfl rfl rfl sz104 rfl rfl rfl WD ?_)
    refine At.nil ?_
    refine At.inb_n ?_
    refine At.toH [(4, _), (5, ⟨true, b5, 0, 104, [u32V (count + BitVec.ofNat 32 (i + 1))], 0⟩), (6, _), (7, ⟨true, b7, 0, 5, (strTo l (keyAt key count nonce) (min ((i + 1) * 64) l.length)).map u8V, (c7 - l.length) * 1⟩), (8, _), (9, _)] (AllL.cons_ (rfl) (AllL.cons_ (by rw [show count + BitVec.ofNat 32 (i + 1) = count + BitVec.ofNat 32 i + 1#32 by rw [BitVec.add_assoc, BitVec.ofNat_add]]; rfl) (AllL.cons_ (rfl) (AllL.cons_ (by rw [show min ((i + 1) * 64) l.length = i * 64 + min 64 (l.length - i * 64) by omega]; rfl) (AllL.cons_ (rfl) (AllL.cons_ (rfl) trivial)))))) ?_
    exact hK _ _ ⟨(), rfl, trivial⟩
 ·
  rintro D w1 hX hD _ ⟨_u, rfl, _⟩
  have hm : min ((chunksV A7 l.length 64).length * 64) l.length = l.length := by rw [chunksV_len]; omega
  rw [hm, strTo_all key count nonce l rfl]
  refine At.inb_n ?_
  refine At.next ?_
  refine At.seq ?_
  refine At.region ?_
  refine At.p (some 39) (P_move rfl rfl) ?_
  refine At.p (some 8) (P_assign rfl rfl) ?_
  refine At.nil ?_
  refine At.next ?_
  refine At.ret ?_
  refine At.giveM hX hD (.inl rfl) [7] (rows' := [_]) (ResV.tmps (vs := [_]) rfl ⟨rfl, trivial⟩) rfl (by simp) (by simp) ?_
  exact ⟨A7, b7, c7, g7a, g7b, rfl, by rw [Nat.mul_one]⟩
 ·
  intro D w1 hX hD H' hr
  exact hr.elim

def upTo (l : List (BitVec 8)) (K : Nat → BitVec 8) (m : Nat) : List (BitVec 8) := (List.range m).map fun j => l.getD j 0#8 ^^^ K j
theorem upTo_len (l : List (BitVec 8)) (K : Nat → BitVec 8) (m : Nat) : (upTo l K m).length = m := by simp [upTo]
theorem upTo_succ (l : List (BitVec 8)) (K : Nat → BitVec 8) (m : Nat) {z : BitVec 8} (h : z = l.getD m 0#8 ^^^ K m) : upTo l K m ++ [z] = upTo l K (m + 1) := by subst h; simp [upTo, List.range_succ]

theorem r_Stream (key nonce l : List (BitVec 8)) (count : BitVec 32) (A : Option Addr) (ca bq q : Nat) (hkey : key.length = 32) (hnonce : nonce.length = 12) (hA : 0 < l.length → A = some ⟨bq, q, none⟩) (hl : l.length ≤ 1000000) :
  Con Try.prog 64 [aggB key, u32V count, aggB nonce, .slice A l.length ca] [bytesRow bq q l] (fun v rs => ∃ A2 b2 c2, (0 < c2 → A2 = some ⟨b2, 0, none⟩) ∧ l.length ≤ c2 ∧ v = .slice A2 l.length c2 ∧ rs = [⟨true, b2, 0, 5, (streamS key count nonce l).map u8V, c2 - l.length⟩]) := by
 refine Con.enter Try.func64 Try.ntmps64 (Nat.le_of_ble_eq_true rfl) rfl fun w => ?_
 refine At.seq ?_
 have hk32 : key.length = 32 := hkey
 refine At.region ?_
 refine At.s (S_box (some 4) 4 (zs := key.map u8V) rfl rfl rfl (fun b4 => ?_))
 refine At.s (S_box (some 6) 6 (zs := nonce.map u8V) rfl rfl rfl (fun b6 => ?_))
 refine At.p (some 8) (P_assign rfl rfl) ?_
 refine At.nil ?_
 refine At.next ?_
 refine At.seq ?_
 refine At.region ?_
 refine At.s (S_buildSlice0 (some 13) 7 rfl Try.underlying23 sz5 (fun b9 => ?_))
 refine At.p (some 9) (P_assign rfl rfl) ?_
 refine At.nil ?_
 refine At.next ?_
 refine At.seq ?_
 refine At.seq ?_
 refine At.region ?_
 refine At.p (some 10) (P_assign rfl rfl) ?_
 refine At.nil ?_
 refine At.next ?_
 refine At.block ?_
 refine At.loopx (I := fun m fr H => ∃ k A9 b9 c9, m = l.length + 64 - k * 64 ∧ fr = frOf [(1, u32V count), (3, .slice A l.length ca), (4, ptr b4 0), (6, ptr b6 0), (9, .slice A9 (min (k * 64) l.length) c9), (10, iV ((k * 64 : Nat) : Int))] ∧ H = hOf [(0, bytesRow bq q l), (4, ⟨true, b4, 0, 22, key.map u8V, 0⟩), (6, ⟨true, b6, 0, 54, nonce.map u8V, 0⟩), (7, ⟨true, b9, 0, 5, (upTo l (keyAt key count nonce) (min (k * 64) l.length)).map u8V, c9 - (min (k * 64) l.length)⟩)] ∧ (0 < c9 → A9 = some ⟨b9, 0, none⟩) ∧ min (k * 64) l.length ≤ c9 ∧ k * 64 < l.length + 64) ?_ ?_
 ·
  intro Kc0 hKc0
  refine At.to [(1, _), (3, _), (4, _), (6, _), (9, .slice (some ⟨b9, 0, none⟩) (min (0 * 64) l.length) 0), (10, iV ((0 * 64 : Nat) : Int))] [(0, _), (4, _), (6, _), (7, ⟨true, b9, 0, 5, (upTo l (keyAt key count nonce) (min (0 * 64) l.length)).map u8V, 0 - (min (0 * 64) l.length)⟩)] (AllL.cons_ (rfl) (AllL.cons_ (rfl) (AllL.cons_ (rfl) (AllL.cons_ (rfl) (AllL.cons_ (by rw [Nat.zero_mul, Nat.zero_min]; rfl) (AllL.cons_ (rfl) trivial)))))) (AllL.cons_ (rfl) (AllL.cons_ (rfl) (AllL.cons_ (rfl) (AllL.cons_ (by rw [Nat.zero_mul, Nat.zero_min]; rfl) trivial)))) ?_
  exact hKc0 _ _ _ ⟨0, some ⟨b9, 0, none⟩, b9, 0, rfl, rfl, rfl, fun _ => rfl, by omega, by omega⟩
 ·
  rintro m fr H ⟨k, A9, b9, c9, rfl, rfl, rfl, hA9, hc9, hk9⟩ Kc0 hKc0
  refine At.seq ?_
  refine At.seq ?_
  refine At.region ?_
  refine At.p (some 14) (P_move rfl rfl) ?_
  refine At.p (some 15) (P_move rfl rfl) ?_
  refine At.p (some 16) (P_len_sl rfl rfl ⟨_, Try.underlying23⟩ rfl) ?_
  refine At.p (some 17) (P_cmp rfl rfl rfl rfl rfl rfl) ?_
  refine At.nil ?_
  refine At.next ?_
  refine At.cond rfl (fun h17 => ?_) (fun h17 => ?_)
  · -- cond 17 t
   have hlt : k * 64 < l.length := by simp at h17; omega
   have hbl := blockS_len key (count + BitVec.ofNat 32 k) nonce
   have hmin0 : min (k * 64) l.length = k * 64 := by omega
   refine At.skip ?_
   refine At.next ?_
   refine At.seq ?_
   refine At.block ?_
   refine At.seq ?_
   refine At.region ?_
   refine At.q (some 20) (Q_loadA (k := 4) rfl rfl Try.underlying22 rfl sz22 WD rfl) ?_
   refine At.p (some 21) (P_move rfl rfl) ?_
   refine At.p (some 22) (P_move rfl rfl) ?_
   refine At.p (some 23) (P_quo_i rfl rfl rfl (by omega) (by omega) (by first | decide | omega)) ?_
   refine At.p (some 24) (P_conv_iwE (b := BitVec.ofNat 32 k) (by rw [show ((k * 64 : Nat) : Int) / 64 = (k : Int) by omega]; exact BitVec.ofInt_natCast _ _) UK.u32 rfl Try.underlying3 Try.underlying104 rfl) ?_
   refine At.p (some 25) (P_add_w UK.u32 rfl rfl rfl) ?_
   refine At.q (some 26) (Q_loadA (k := 6) rfl rfl Try.underlying54 rfl sz54 WD rfl) ?_
   refine At.s (S_callV (some 27) [] [] (vs := [_, _, _]) rfl en114 rfl V0 (by simp) (r_Block key nonce (count + BitVec.ofNat 32 k) hkey hnonce) (by rintro _ _ ⟨rfl, rfl⟩; rfl) ?_)
   rintro _ _ ⟨rfl, rfl⟩
   refine At.s (S_alloc (some 11) 11 (zs := (List.replicate 64 0#8).map u8V) rfl ze156 rfl (fun b11 => ?_))
   refine At.s (S_storeA none (k := 11) (vs := _) rfl rfl rfl (by first | (rw [sz156]; simp <;> omega) | exact sz156) rfl WA WB rfl WC ?_)
   refine At.nil ?_
   refine At.next ?_
   refine At.seq ?_
   refine At.region ?_
   refine At.p (some 28) (P_move rfl rfl) ?_
   refine At.p (some 12) (P_assign rfl rfl) ?_
   refine At.nil ?_
   refine At.next ?_
   refine At.block ?_
   refine At.loopx (I := fun m fr H => ∃ e A9 b9 c9, m = l.length + 64 - e ∧ fr = frOf [(1, u32V count), (3, .slice A l.length ca), (4, ptr b4 0), (6, ptr b6 0), (9, .slice A9 e c9), (10, iV ((k * 64 : Nat) : Int)), (11, ptr b11 0), (12, iV (e : Int))] ∧ H = hOf [(0, bytesRow bq q l), (4, ⟨true, b4, 0, 22, key.map u8V, 0⟩), (6, ⟨true, b6, 0, 54, nonce.map u8V, 0⟩), (7, ⟨true, b9, 0, 5, (upTo l (keyAt key count nonce) (e)).map u8V, c9 - (e)⟩), (11, ⟨true, b11, 0, 156, (blockS key (count + BitVec.ofNat 32 k) nonce).map u8V, 0⟩)] ∧ (0 < c9 → A9 = some ⟨b9, 0, none⟩) ∧ e ≤ c9 ∧ k * 64 ≤ e ∧ e ≤ min l.length (k * 64 + 64)) ?_ ?_
   ·
    intro Kc1 hKc1
    refine At.to [(1, _), (3, _), (4, _), (6, _), (9, .slice A9 (k * 64) c9), (10, _), (11, _), (12, iV ((k * 64 : Nat) : Int))] [(0, _), (4, _), (6, _), (7, ⟨true, b9, 0, 5, (upTo l (keyAt key count nonce) (k * 64)).map u8V, c9 - (k * 64)⟩), (11, _)] (AllL.cons_ (rfl) (AllL.cons_ (rfl) (AllL.cons_ (rfl) (AllL.cons_ (rfl) (AllL.cons_ (by show some (Value.slice A9 (min (k * 64) l.length) c9) = _; rw [hmin0]) (AllL.cons_ (rfl) (AllL.cons_ (rfl) (AllL.cons_ (rfl) trivial)))))))) (AllL.cons_ (rfl) (AllL.cons_ (rfl) (AllL.cons_ (rfl) (AllL.cons_ (congrArg (fun z => some (⟨true, b9, 0, 5, (upTo l (keyAt key count nonce) z).map u8V, c9 - z⟩ : Row)) hmin0) (AllL.cons_ (rfl) trivial))))) ?_
    exact hKc1 _ _ _ ⟨k * 64, A9, b9, c9, rfl, rfl, rfl, hA9, by omega, by omega, by omega⟩
   ·
    rintro m fr H ⟨e, A9, b9, c9, rfl, rfl, rfl, hA9, hc9, hm1, hm2⟩ Kc1 hKc1
    refine At.seq ?_
    refine At.seq ?_
    refine At.region ?_
    refine At.p (some 29) (P_move rfl rfl) ?_
    refine At.p (some 30) (P_move rfl rfl) ?_
    refine At.p (some 31) (P_len_sl rfl rfl ⟨_, Try.underlying23⟩ rfl) ?_
    refine At.p (some 32) (P_cmp rfl rfl rfl rfl rfl rfl) ?_
    refine At.p (some 33) (P_move rfl rfl) ?_
    refine At.gsplit (t := 33) (want := true) rfl (fun g1 => ?_) (fun g1 => ?_)
    ·
     refine At.gy (t := 33) rfl g1 rfl rfl ?_
     refine At.p (some 34) (P_move rfl rfl) ?_
     refine At.gy (t := 33) rfl g1 rfl rfl ?_
     refine At.p (some 35) (P_move rfl rfl) ?_
     refine At.gy (t := 33) rfl g1 rfl rfl ?_
     refine At.p (some 36) (P_add_i rfl rfl rfl (by omega)) ?_
     refine At.gy (t := 33) rfl g1 rfl rfl ?_
     refine At.p (some 37) (P_cmp rfl rfl rfl rfl rfl rfl) ?_
     refine At.p (some 38) (P_pick_t rfl rfl g1 rfl) ?_
     refine At.nil ?_
     refine At.next ?_
     refine At.cond rfl (fun h38 => ?_) (fun h38 => ?_)
     · -- cond 38 t
      have hm3 : e < l.length ∧ e < k * 64 + 64 := by simp at *; omega
      refine At.skip ?_
      refine At.next ?_
      refine At.seq ?_
      refine At.block ?_
      refine At.draws 12 [] [.q false [0, 1, 2, 3, 4, 5, 6, 7, 8, 9, 10], .e false 11] (by kernel_rfl) (by kernel_rfl) ?_
      refine At.wp (some 41) (P_move rfl rfl) ?_
      refine At.wp (some 42) (P_move rfl rfl) ?_
      refine At.wp (some 43) (P_move rfl rfl) ?_
      refine At.wp (some 44) (P_indexAddr_sl1 rfl Try.underlying23 sz5 rfl (hA (by omega)) rfl rfl (by omega)) ?_
      refine At.wq (some 45) (Q_loadR (l := l) (k := 0) (j := e) (0#8) rfl rfl Try.underlying5 rfl rfl rfl (by omega)) ?_
      refine At.wp (some 46) (P_move rfl rfl) ?_
      refine At.wp (some 47) (P_move rfl rfl) ?_
      refine At.wp (some 48) (P_sub_i rfl rfl rfl (by omega)) ?_
      refine At.wp (some 49) (P_indexAddr_arr1 (j := e - k * 64) rfl Try.underlying156 sz5 rfl rfl (by omega) (by omega)) ?_
      refine At.wq (some 50) (Q_loadM (k := 11) (0#8) rfl rfl Try.underlying5 rfl rfl WD) ?_
      refine At.wp (some 51) (P_xor_w UK.u8 rfl rfl rfl) ?_
      refine At.wqn ?_
      refine At.we ?_
      refine S_buildSliceV (some 52) 12 [_] rfl Try.underlying23 sz5 ze5 rfl rfl (by decide) (by decide) rfl rfl (fun b12 => ?_)
      refine At.wt rfl ?_
      refine At.s (S_appendM (some 53) 7 (upTo l (keyAt key count nonce) (e + 1)) (f := u8V) (l := upTo l (keyAt key count nonce) e) (L := [l.getD e 0#8 ^^^ (blockS key (count + BitVec.ofNat 32 k) nonce).getD (e - k * 64) 0#8]) rfl Try.underlying23 Try.underlying23 (.inr ⟨_, rfl⟩) sz5 by5 ze5 rfl rfl (fun h => ⟨hA9 h, rfl⟩) (upTo_len _ _ _) (by omega) (Src.row (k := 12) (j := 0) rfl (fun _ => rfl) (fun _ => ⟨rfl, rfl, rfl⟩) rfl rfl) (fun _ => rfl) (by omega) (by omega) (upTo_succ l _ e (by rw [← keyAt_chunk key count nonce (show e - k * 64 < 64 by omega), show k * 64 + (e - k * 64) = e by omega])) rfl ?_)
      intro A9' b9' c9' g1 g2
      refine At.p (some 9) (P_assign rfl rfl) ?_
      refine At.nil ?_
      refine At.inb_n ?_
      refine At.next ?_
      refine At.region ?_
      refine At.p (some 39) (P_move rfl rfl) ?_
      refine At.p (some 40) (P_add_i rfl rfl rfl (by omega)) ?_
      refine At.p (some 12) (P_assign rfl rfl) ?_
      refine At.nil ?_
      refine At.next ?_
      refine At.to [(1, _), (3, _), (4, _), (6, _), (9, .slice A9' (e + 1) c9'), (10, _), (11, _), (12, iV ((e + 1 : Nat) : Int))] [(0, _), (4, _), (6, _), (7, ⟨true, b9', 0, 5, (upTo l (keyAt key count nonce) (e + 1)).map u8V, c9' - (e + 1)⟩), (11, _)] (AllL.cons_ (rfl) (AllL.cons_ (rfl) (AllL.cons_ (rfl) (AllL.cons_ (rfl) (AllL.cons_ (congrArg (fun z => some (Value.slice A9' z c9')) (upTo_len l (keyAt key count nonce) (e + 1))) (AllL.cons_ (rfl) (AllL.cons_ (rfl) (AllL.cons_ (rfl) trivial)))))))) (AllL.cons_ (rfl) (AllL.cons_ (rfl) (AllL.cons_ (rfl) (AllL.cons_ (congrArg (fun z => some (⟨true, b9', 0, 5, (upTo l (keyAt key count nonce) (e + 1)).map u8V, c9' - z⟩ : Row)) (upTo_len l (keyAt key count nonce) (e + 1))) (AllL.cons_ (rfl) trivial))))) ?_
      exact hKc1 _ _ _ (by omega) ⟨e + 1, A9', b9', c9', rfl, rfl, rfl, g1, by rw [upTo_len] at g2; exact g2, by omega, by omega⟩
     · -- cond 38 f
      have hm : e = min ((k + 1) * 64) l.length := by simp at *; omega
      refine At.exit ?_
      refine At.thn_e ?_
      refine At.thn_e ?_
      refine At.inb_hit ?_
      refine At.inb_n ?_
      refine At.next ?_
      refine At.region ?_
      refine At.p (some 18) (P_move rfl rfl) ?_
      refine At.p (some 19) (P_add_i rfl rfl rfl (by omega)) ?_
      refine At.p (some 10) (P_assign rfl rfl) ?_
      refine At.nil ?_
      refine At.next ?_
      refine At.to [(1, _), (3, _), (4, _), (6, _), (9, .slice A9 (min ((k + 1) * 64) l.length) c9), (10, iV (((k + 1) * 64 : Nat) : Int))] [(0, _), (4, _), (6, _), (7, ⟨true, b9, 0, 5, (upTo l (keyAt key count nonce) (min ((k + 1) * 64) l.length)).map u8V, c9 - (min ((k + 1) * 64) l.length)⟩)] (AllL.cons_ (rfl) (AllL.cons_ (rfl) (AllL.cons_ (rfl) (AllL.cons_ (rfl) (AllL.cons_ (congrArg (fun z => some (Value.slice A9 z c9)) hm) (AllL.cons_ (by rw [show (((k + 1) * 64 : Nat) : Int) = ((k * 64 : Nat) : Int) + 64 by omega]; rfl) trivial)))))) (AllL.cons_ (rfl) (AllL.cons_ (rfl) (AllL.cons_ (rfl) (AllL.cons_ (congrArg (fun z => some (⟨true, b9, 0, 5, (upTo l (keyAt key count nonce) z).map u8V, c9 - z⟩ : Row)) hm) trivial)))) ?_
      exact hKc0 _ _ _ (by omega) ⟨k + 1, A9, b9, c9, rfl, rfl, rfl, hA9, by omega, by omega⟩
    ·
     refine At.gn (some 34) (t := 33) rfl g1 rfl rfl ?_
     refine At.gn (some 35) (t := 33) rfl g1 rfl rfl ?_
     refine At.gn (some 36) (t := 33) rfl g1 rfl rfl ?_
     refine At.gn (some 37) (t := 33) rfl g1 rfl rfl ?_
     refine At.p (some 38) (P_pick_f rfl rfl g1 rfl) ?_
     refine At.nil ?_
     refine At.next ?_
     refine At.cond rfl (fun h => absurd (h.symm.trans rfl) (by decide)) (fun _ => ?_)
     have hm : e = min ((k + 1) * 64) l.length := by simp at *; omega
     refine At.exit ?_
     refine At.thn_e ?_
     refine At.thn_e ?_
     refine At.inb_hit ?_
     refine At.inb_n ?_
     refine At.next ?_
     refine At.region ?_
     refine At.p (some 18) (P_move rfl rfl) ?_
     refine At.p (some 19) (P_add_i rfl rfl rfl (by omega)) ?_
     refine At.p (some 10) (P_assign rfl rfl) ?_
     refine At.nil ?_
     refine At.next ?_
     refine At.to [(1, _), (3, _), (4, _), (6, _), (9, .slice A9 (min ((k + 1) * 64) l.length) c9), (10, iV (((k + 1) * 64 : Nat) : Int))] [(0, _), (4, _), (6, _), (7, ⟨true, b9, 0, 5, (upTo l (keyAt key count nonce) (min ((k + 1) * 64) l.length)).map u8V, c9 - (min ((k + 1) * 64) l.length)⟩)] (AllL.cons_ (rfl) (AllL.cons_ (rfl) (AllL.cons_ (rfl) (AllL.cons_ (rfl) (AllL.cons_ (congrArg (fun z => some (Value.slice A9 z c9)) hm) (AllL.cons_ (by rw [show (((k + 1) * 64 : Nat) : Int) = ((k * 64 : Nat) : Int) + 64 by omega]; rfl) trivial)))))) (AllL.cons_ (rfl) (AllL.cons_ (rfl) (AllL.cons_ (rfl) (AllL.cons_ (congrArg (fun z => some (⟨true, b9, 0, 5, (upTo l (keyAt key count nonce) z).map u8V, c9 - z⟩ : Row)) hm) trivial)))) ?_
     exact hKc0 _ _ _ (by omega) ⟨k + 1, A9, b9, c9, rfl, rfl, rfl, hA9, by omega, by omega⟩
  · -- cond 17 f
   have hge : l.length ≤ k * 64 := by simp at h17; omega
   have hmin : min (k * 64) l.length = l.length := by omega
   rw [hmin, show upTo l (keyAt key count nonce) l.length = streamS key count nonce l from rfl]
   rw [hmin] at hc9
   refine At.exit ?_
   refine At.thn_e ?_
   refine At.thn_e ?_
   refine At.inb_hit ?_
   refine At.next ?_
   refine At.seq ?_
   refine At.region ?_
   refine At.p (some 54) (P_move rfl rfl) ?_
   refine At.p (some 8) (P_assign rfl rfl) ?_
   refine At.nil ?_
   refine At.next ?_
   refine At.ret ?_
   refine At.give (.inl rfl) [7] (rows' := [_]) (vs := [_]) rfl ⟨rfl, trivial⟩ rfl (by simp) (by simp) ⟨A9, b9, c9, hA9, hc9, rfl, rfl⟩

theorem c_StreamN {key nonce l : List (BitVec 8)} {count : BitVec 32} {A : Option Addr} {n ca bq q : Nat} (hn : l.length = n) (hkey : key.length = 32) (hnonce : nonce.length = 12) (hA : 0 < n → A = some ⟨bq, q, none⟩) (hl : n ≤ 1000000) :
  Con Try.prog 60 [aggB key, u32V count, aggB nonce, .slice A n ca] [bytesRow bq q l] (fun v rs => ∃ A2 b2 c2, (0 < c2 → A2 = some ⟨b2, 0, none⟩) ∧ n ≤ c2 ∧ v = .slice A2 n c2 ∧ rs = [⟨true, b2, 0, 5, (streamS key count nonce l).map u8V, c2 - n⟩]) := by
 subst hn
 exact c_Stream key nonce l count A ca bq q hkey hnonce hA hl
theorem r_StreamN {key nonce l : List (BitVec 8)} {count : BitVec 32} {A : Option Addr} {n ca bq q : Nat} (hn : l.length = n) (hkey : key.length = 32) (hnonce : nonce.length = 12) (hA : 0 < n → A = some ⟨bq, q, none⟩) (hl : n ≤ 1000000) :
  Con Try.prog 64 [aggB key, u32V count, aggB nonce, .slice A n ca] [bytesRow bq q l] (fun v rs => ∃ A2 b2 c2, (0 < c2 → A2 = some ⟨b2, 0, none⟩) ∧ n ≤ c2 ∧ v = .slice A2 n c2 ∧ rs = [⟨true, b2, 0, 5, (streamS key count nonce l).map u8V, c2 - n⟩]) := by
 subst hn
 exact r_Stream key nonce l count A ca bq q hkey hnonce hA hl
theorem stream_twice (key : List (BitVec 8)) (count : BitVec 32) (nonce l : List (BitVec 8)) : streamS key count nonce (streamS key count nonce l) = l := by
 apply List.ext_getElem (by simp [streamS_len])
 intro i h1 h2
 have h3 : i < (streamS key count nonce l).length := by simpa [streamS_len] using h2
 simp [streamS, h2]
 rw [BitVec.xor_assoc, BitVec.xor_self, BitVec.xor_zero]


end Go.Proofs.Ytcjfkmhijfcciaa

