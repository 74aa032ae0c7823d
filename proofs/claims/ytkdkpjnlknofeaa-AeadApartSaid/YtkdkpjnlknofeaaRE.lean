import Derived.Test.YtkdkpjnlknofeaaRD
import Derived.Test.YtkdkpjnlknofeaaSE20
namespace Go.Proofs.Ytkdkpjnlknofeaa
set_option maxRecDepth 20000
set_option linter.unusedVariables false
set_option linter.unusedSimpArgs false
open Go.SE Go.RowKit

def openOk (key nonce b more : List (BitVec 8)) : Bool := decide (16 ≤ b.length ∧ aTag key nonce (b.take (b.length - 16)) more = b.drop (b.length - 16))
def openT (key nonce b more : List (BitVec 8)) : List (BitVec 8) := if openOk key nonce b more then streamS key 1#32 nonce (b.take (b.length - 16)) else []
def openE (key nonce b more : List (BitVec 8)) : Int := if b.length < 16 then 2 else if openOk key nonce b more then 0 else 4
theorem openT_len (key nonce b more : List (BitVec 8)) : (openT key nonce b more).length ≤ b.length - 16 := by
  unfold openT
  split
  · rw [streamS_len, List.length_take]; omega
  · exact Nat.zero_le _
theorem openE_ok (key nonce b more : List (BitVec 8)) : (openE key nonce b more == 0) = openOk key nonce b more := by
  unfold openE
  split
  · rename_i h
    have : openOk key nonce b more = false := decide_eq_false fun h2 => by have := h2.1; omega
    rw [this]; rfl
  · cases openOk key nonce b more <;> rfl
theorem openE_short (key nonce b more : List (BitVec 8)) : (openE key nonce b more == 2) = decide (((b.length : Nat) : Int) < 16) := by
  unfold openE
  split
  · rename_i h; rw [decide_eq_true (by omega)]; rfl
  · rename_i h; rw [decide_eq_false (by omega)]; cases openOk key nonce b more <;> rfl
theorem openE_some (key nonce b more : List (BitVec 8)) (h0 : openE key nonce b more ≠ 0) (h2 : openE key nonce b more ≠ 2) : openE key nonce b more = 4 := by
  have h : openE key nonce b more = if b.length < 16 then 2 else if openOk key nonce b more then 0 else 4 := rfl
  by_cases h16 : b.length < 16
  · rw [if_pos h16] at h; exact absurd h h2
  · rw [if_neg h16] at h
    cases hk : openOk key nonce b more with
    | true => rw [hk, if_pos rfl] at h; exact absurd h h0
    | false => rw [hk] at h; exact h
theorem openE_long (key nonce b more : List (BitVec 8)) (h16 : 16 ≤ b.length) (h0 : openE key nonce b more ≠ 0) : openE key nonce b more = 4 := openE_some _ _ _ _ h0 fun h => by
  have := openE_short key nonce b more
  rw [h, decide_eq_false (by omega)] at this
  cases this
theorem open_seal (key nonce text more : List (BitVec 8)) : openOk key nonce (sealS key nonce text more) more = true := by
  have hl := sealS_len key nonce text more
  refine decide_eq_true ⟨by omega, ?_⟩
  rw [seal_take _ _ _ _ hl, seal_drop _ _ _ _ hl]
theorem openT_seal (key nonce text more : List (BitVec 8)) : openT key nonce (sealS key nonce text more) more = text := by
  have hl := sealS_len key nonce text more
  rw [openT, open_seal, if_pos rfl, stream_seal _ _ _ _ hl]
theorem openE_seal (key nonce text more : List (BitVec 8)) : openE key nonce (sealS key nonce text more) more = 0 := by
  have hl := sealS_len key nonce text more
  rw [openE, open_seal, if_neg (by omega)]; rfl

theorem c_OpenU {key nonce b more : List (BitVec 8)} {nb nm : Nat} {A A2 : Option Addr} {ca cb bq q br r : Nat} (hnb : b.length = nb) (hnm : more.length = nm) (hkey : key.length = 32) (hnonce : nonce.length = 12) (hA : 0 < nb → A = some ⟨bq, q, none⟩) (hB : 0 < nm → A2 = some ⟨br, r, none⟩) (hl : nb ≤ 100000) (hlm : nm ≤ 100000) (hca : nb ≤ ca) :
    Con Try.prog 24 [aggK key, aggK nonce, .slice A nb ca, .slice A2 nm cb] [pRow bq q b, pRow br r more] (fun v rs => ∃ Aa ba ca', (0 < ca' → Aa = some ⟨ba, 0, none⟩) ∧ (openT key nonce b more).length ≤ ca' ∧ v = .tuple #[.slice Aa (openT key nonce b more).length ca', iV (openE key nonce b more)] ∧ rs = [⟨true, ba, 0, 5, (openT key nonce b more).map u8V, ca' - (openT key nonce b more).length⟩]) := by
  subst hnb hnm
  by_cases h16 : b.length < 16
  · have h1 : openOk key nonce b more = false := decide_eq_false fun h => by have := h.1; omega
    have h2 : openT key nonce b more = [] := by rw [openT, h1]; rfl
    have h3 : openE key nonce b more = 2 := by rw [openE, if_pos h16]
    rw [h2]
    exact Con.add0 0 5 (c_OpenS key nonce b more A A2 ca cb bq q br r hkey hnonce hA hB hl hlm hca h16) fun v rs h => ⟨h.2, none, 0, 0, fun h => absurd h (by decide), Nat.le_refl _, by rw [h.1, h3]; rfl, rfl⟩
  · by_cases hok : aTag key nonce (b.take (b.length - 16)) more = b.drop (b.length - 16)
    · have h1 : openOk key nonce b more = true := decide_eq_true ⟨by omega, hok⟩
      have h2 : openT key nonce b more = streamS key 1#32 nonce (b.take (b.length - 16)) := by rw [openT, h1]; rfl
      have h3 : openE key nonce b more = 0 := by rw [openE, if_neg h16, h1]; rfl
      have hl2 : (streamS key 1#32 nonce (b.take (b.length - 16))).length = b.length - 16 := by rw [streamS_len]; simp
      rw [h2]
      refine (c_OpenG key nonce b more A A2 ca cb bq q br r hkey hnonce hA hB hl hlm hca (by omega) hok).mono fun v rs h => ?_
      obtain ⟨Aa, ba, ca', g1, g2, g3, g4⟩ := h
      exact ⟨Aa, ba, ca', g1, by rw [hl2]; exact g2, by rw [g3, hl2, h3], by rw [g4, hl2]⟩
    · have h1 : openOk key nonce b more = false := decide_eq_false fun h => hok h.2
      have h2 : openT key nonce b more = [] := by rw [openT, h1]; rfl
      have h3 : openE key nonce b more = 4 := by rw [openE, if_neg h16, h1]; rfl
      rw [h2]
      exact Con.add0 0 5 (c_OpenB key nonce b more A A2 ca cb bq q br r hkey hnonce hA hB hl hlm hca (by omega) hok) fun v rs h => ⟨h.2, none, 0, 0, fun h => absurd h (by decide), Nat.le_refl _, by rw [h.1, h3]; rfl, rfl⟩

theorem r_OpenU {key nonce b more : List (BitVec 8)} {nb nm : Nat} {A A2 : Option Addr} {ca cb bq q br r : Nat} (hnb : b.length = nb) (hnm : more.length = nm) (hkey : key.length = 32) (hnonce : nonce.length = 12) (hA : 0 < nb → A = some ⟨bq, q, none⟩) (hB : 0 < nm → A2 = some ⟨br, r, none⟩) (hl : nb ≤ 100000) (hlm : nm ≤ 100000) (hca : nb ≤ ca) :
    Con Try.prog 27 [aggK key, aggK nonce, .slice A nb ca, .slice A2 nm cb] [pRow bq q b, pRow br r more] (fun v rs => ∃ Aa ba ca', (0 < ca' → Aa = some ⟨ba, 0, none⟩) ∧ (openT key nonce b more).length ≤ ca' ∧ v = .tuple #[.slice Aa (openT key nonce b more).length ca', .bool (openOk key nonce b more)] ∧ rs = [⟨true, ba, 0, 5, (openT key nonce b more).map u8V, ca' - (openT key nonce b more).length⟩]) := by
  subst hnb hnm
  by_cases h16 : b.length < 16
  · have h1 : openOk key nonce b more = false := decide_eq_false fun h => by have := h.1; omega
    have h2 : openT key nonce b more = [] := by rw [openT, h1]; rfl
    have h3 : openE key nonce b more = 2 := by rw [openE, if_pos h16]
    rw [h2]
    exact Con.add0 0 5 (r_OpenS key nonce b more A A2 ca cb bq q br r hkey hnonce hA hB hl hlm hca h16) fun v rs h => ⟨h.2, none, 0, 0, fun h => absurd h (by decide), Nat.le_refl _, by rw [h.1, h1]; rfl, rfl⟩
  · by_cases hok : aTag key nonce (b.take (b.length - 16)) more = b.drop (b.length - 16)
    · have h1 : openOk key nonce b more = true := decide_eq_true ⟨by omega, hok⟩
      have h2 : openT key nonce b more = streamS key 1#32 nonce (b.take (b.length - 16)) := by rw [openT, h1]; rfl
      have h3 : openE key nonce b more = 0 := by rw [openE, if_neg h16, h1]; rfl
      have hl2 : (streamS key 1#32 nonce (b.take (b.length - 16))).length = b.length - 16 := by rw [streamS_len]; simp
      rw [h2]
      refine (r_OpenG key nonce b more A A2 ca cb bq q br r hkey hnonce hA hB hl hlm hca (by omega) hok).mono fun v rs h => ?_
      obtain ⟨Aa, ba, ca', g1, g2, g3, g4⟩ := h
      exact ⟨Aa, ba, ca', g1, by rw [hl2]; exact g2, by rw [g3, hl2, h1], by rw [g4, hl2]⟩
    · have h1 : openOk key nonce b more = false := decide_eq_false fun h => hok h.2
      have h2 : openT key nonce b more = [] := by rw [openT, h1]; rfl
      have h3 : openE key nonce b more = 4 := by rw [openE, if_neg h16, h1]; rfl
      rw [h2]
      exact Con.add0 0 5 (r_OpenB key nonce b more A A2 ca cb bq q br r hkey hnonce hA hB hl hlm hca (by omega) hok) fun v rs h => ⟨h.2, none, 0, 0, fun h => absurd h (by decide), Nat.le_refl _, by rw [h.1, h1]; rfl, rfl⟩

set_option maxHeartbeats 1000000 in
theorem l_Opens (key nonce text : List (BitVec 8)) (b0 b1 : Int) (A : Option Addr) (ca bq q : Nat) (hkey : key.length = 32) (hnonce : nonce.length = 12) (hA : 0 < text.length → A = some ⟨bq, q, none⟩) (hca : text.length ≤ ca) :
    Con Try.prog 13 [.agg (key.map u8V ++ nonce.map u8V).toArray, .slice A text.length ca, .agg #[iV b0, iV b1]] [pRow bq q text] (fun v rs => v = .bool true ∧ rs = []) := by
  refine Con.enter Try.func13 Try.ntmps13 (Nat.le_of_ble_eq_true rfl) rfl fun w => ?_
  refine At.seq ?_
  have hk32 : key.length = 32 := hkey
  have hn12 : nonce.length = 12 := hnonce
  obtain ⟨n, hn⟩ : ∃ n, n = min text.length 100 := ⟨_, rfl⟩
  have hn2 : (text.take n).length = n := by simp; omega
  have hsl : (sealS key nonce (text.take n) []).length = n + 16 := by rw [sealS_len, hn2]
  refine At.region ?_
  refine At.s (S_box (some 3) 3 (zs := key.map u8V ++ nonce.map u8V) rfl rfl rfl (fun b3 => ?_))
  refine At.s (S_box (some 5) 5 (zs := [iV b0, iV b1]) rfl rfl rfl (fun b5 => ?_))
  refine At.p (some 6) (P_assign rfl rfl) ?_
  refine At.nil ?_
  refine At.next ?_
  refine At.seq ?_
  refine At.region ?_
  refine At.p (some 12) (P_move rfl rfl) ?_
  refine At.p (some 13) (P_move rfl rfl) ?_
  refine At.p (some 14) (P_len_sl rfl rfl ⟨_, Try.underlying31⟩ rfl) ?_
  refine At.p (some 15) (P_min2 rfl rfl rfl rfl) ?_
  refine At.p (some 16) (P_slice_sl (h := n) rfl Try.underlying31 sz5 rfl rfl ⟨_, _, rfl, by omega⟩ rfl (by omega) (by omega) (by omega)) ?_
  refine At.p (some 1) (P_assign rfl rfl) ?_
  refine At.nil ?_
  refine At.next ?_
  refine At.seq ?_
  refine At.region ?_
  refine At.p (some 17) (P_fieldAddr0 (off := 0) rfl Try.underlying44 rfl sz22 rfl rfl) ?_
  refine At.q (some 18) (Q_loadN (k := 3) (j := 0) (cs := key.map u8V) rfl rfl Try.underlying22 rfl sz22 rfl rfl rfl (by rw [List.drop_zero, List.take_append_of_le_length (by rw [List.length_map, hkey]; decide), List.take_of_length_le (by rw [List.length_map, hkey]; decide)]) (by rw [List.length_map, hkey])) ?_
  refine At.p (some 19) (P_fieldAddr0 (off := 32) rfl Try.underlying44 rfl sz24 rfl rfl) ?_
  refine At.q (some 20) (Q_loadN (k := 3) (j := 32) (cs := nonce.map u8V) rfl rfl Try.underlying24 rfl sz24 rfl rfl rfl (by rw [List.drop_left' (by rw [List.length_map, hkey]), List.take_of_length_le (by rw [List.length_map, hnonce]; decide)]) (by rw [List.length_map, hnonce])) ?_
  refine At.p (some 21) (P_move rfl rfl) ?_
  refine At.s (S_callV (some 22) [(0, _), (99, _)] [7] (vs := [_, _, _, _]) rfl en26 rfl (VN (by simp) rfl (View.sub (j := 0) (m := n) rfl rfl) (VE rfl rfl V0)) (by simp) (r_SealN (b := (text.take n)) (more := []) (nb := n) (nm := 0) (br := 0) (r := 0) hn2 rfl hkey hnonce (fun h => cut_zero (hA (by omega))) (fun h => absurd h (by decide)) (by omega) (by decide)) (by rintro _ _ ⟨A7, b7, c7, g7a, g7b, rfl, rfl⟩; rfl) ?_)
  rintro _ _ ⟨A7, b7, c7, g7a, g7b, rfl, rfl⟩
  refine At.p (some 7) (P_assign rfl rfl) ?_
  refine At.nil ?_
  refine At.next ?_
  refine At.seqJ (fun fr H => ∃ (L : List (BitVec 8)) (b7 c7 : Nat) (A7 : Option Addr), fr = frOf [(3, ptr b3 0), (5, ptr b5 0), (7, .slice A7 L.length c7)] ∧ H = hOf [(3, ⟨true, b3, 0, 44, key.map u8V ++ nonce.map u8V, 0⟩), (5, ⟨true, b5, 0, 50, [iV b0, iV b1], 0⟩), (7, ⟨true, b7, 0, 5, L.map u8V, c7 - L.length⟩)] ∧ L.length ≤ 200 ∧ (0 < c7 → A7 = some ⟨b7, 0, none⟩) ∧ L.length ≤ c7) ?_ ?_
  · intro Kj1 hKj1
    refine At.seq ?_
    refine At.region ?_
    refine At.p (some 23) (P_indexAddr_arr1 (j := 1) rfl Try.underlying50 sz3 rfl rfl rfl (by decide)) ?_
    refine At.q (some 24) (Q_loadO (k := 5) rfl rfl Try.underlying3 rfl rfl rfl) ?_
    refine At.p (some 25) (P_rem_any rfl rfl rfl (by decide)) ?_
    refine At.p (some 26) (P_cmp rfl rfl rfl rfl rfl rfl) ?_
    refine At.nil ?_
    refine At.next ?_
    refine At.cond rfl (fun h26 => ?_) (fun h26 => ?_)
    · -- cond 26 t
      refine At.region ?_
      refine At.s (S_buildSlice0 (some 27) 27 rfl Try.underlying31 sz5 (fun b27 => ?_))
      refine At.p (some 28) (P_move rfl rfl) ?_
      refine At.s (S_appendM (some 29) 27 ((text.take n)) (f := u8V) (l := []) (L := (text.take n)) rfl Try.underlying31 Try.underlying31 (.inr ⟨_, rfl⟩) sz5 by5 ze5 rfl rfl (fun h => ⟨absurd h (by omega), rfl⟩) rfl rfl (Src.row (k := 0) (j := 0) rfl (fun h => cut_zero (hA (by omega))) (fun _ => ⟨rfl, rfl, rfl⟩) (by simp [pRow, List.map_take]) (by simp; omega)) (fun _ => rfl) (by omega) (by omega) rfl hn2 ?_)
      intro A7 b7 c7 g7a g7b
      refine At.p (some 7) (P_assign rfl rfl) ?_
      refine At.nil ?_
      refine At.next ?_
      refine At.swap 7 27 ?_
      refine At.to [(3, _), (5, _), (7, _)] [(3, _), (5, _), (7, _)] (AllL.cons_ (rfl) (AllL.cons_ (rfl) (AllL.cons_ (rfl) trivial))) (AllL.cons_ (rfl) (AllL.cons_ (rfl) (AllL.cons_ (rfl) trivial))) ?_
      exact hKj1 _ _ ⟨_, _, _, _, rfl, rfl, by omega, g7a, g7b⟩
    · -- cond 26 f
      refine At.skip ?_
      refine At.next ?_
      refine At.to [(3, _), (5, _), (7, _)] [(3, _), (5, _), (7, _)] (AllL.cons_ (rfl) (AllL.cons_ (rfl) (AllL.cons_ (rfl) trivial))) (AllL.cons_ (rfl) (AllL.cons_ (rfl) (AllL.cons_ (rfl) trivial))) ?_
      exact hKj1 _ _ ⟨_, _, _, _, rfl, rfl, by omega, g7a, g7b⟩
  · rintro fr H ⟨L, b7, c7, A7, rfl, rfl, hL, g7a, g7b⟩
    have hpos : 0 < L.length → (BitVec.ofInt 64 (L.length : Int)).toNat = L.length := fun h => by rw [BitVec.toNat_ofInt]; omega
    refine At.seqJ (fun fr H => ∃ (L : List (BitVec 8)) (b7 c7 : Nat) (A7 : Option Addr), fr = frOf [(3, ptr b3 0), (5, ptr b5 0), (7, .slice A7 L.length c7)] ∧ H = hOf [(3, ⟨true, b3, 0, 44, key.map u8V ++ nonce.map u8V, 0⟩), (5, ⟨true, b5, 0, 50, [iV b0, iV b1], 0⟩), (7, ⟨true, b7, 0, 5, L.map u8V, c7 - L.length⟩)] ∧ L.length ≤ 200 ∧ (0 < c7 → A7 = some ⟨b7, 0, none⟩) ∧ L.length ≤ c7) ?_ ?_
    · intro Kj2 hKj2
      refine At.seq ?_
      refine At.region ?_
      refine At.p (some 30) (P_move rfl rfl) ?_
      refine At.p (some 31) (P_len_sl rfl rfl ⟨_, Try.underlying31⟩ rfl) ?_
      refine At.p (some 32) (P_cmp rfl rfl rfl rfl rfl rfl) ?_
      refine At.nil ?_
      refine At.next ?_
      refine At.cond rfl (fun h32 => ?_) (fun h32 => ?_)
      · -- cond 32 t
        have hp : 0 < L.length := by simp at h32; omega
        have hmt := hpos hp
        have hm0 : BitVec.ofInt 64 (L.length : Int) ≠ 0#64 := fun h => by rw [h] at hmt; simp at hmt; omega
        obtain ⟨k, hk, hke⟩ := umod_nat (BitVec.ofInt 64 b0) (BitVec.ofInt 64 (L.length : Int)) (by omega) (by omega)
        rw [hmt] at hk
        refine At.draws 14 [] [.q false [0, 1, 2, 3, 4, 5, 6, 7, 8, 9, 10, 11, 12, 13]] (by kernel_rfl) (by kernel_rfl) ?_
        refine At.wp (some 33) (P_move rfl rfl) ?_
        refine At.wp (some 34) (P_indexAddr_arr1 (j := 0) rfl Try.underlying50 sz3 rfl rfl rfl (by decide)) ?_
        refine At.wq (some 35) (Q_loadO (k := 5) rfl rfl Try.underlying3 rfl rfl rfl) ?_
        refine At.wp (some 36) (P_conv_iw UK.u64 rfl Try.underlying3 Try.underlying29 rfl) ?_
        refine At.wp (some 37) (P_move rfl rfl) ?_
        refine At.wp (some 38) (P_len_sl rfl rfl ⟨_, Try.underlying31⟩ rfl) ?_
        refine At.wp (some 39) (P_conv_iw UK.u64 rfl Try.underlying3 Try.underlying29 rfl) ?_
        refine At.wp (some 40) (P_rem_w UK.u64 rfl rfl rfl hm0) ?_
        refine At.wp (some 41) (P_conv_WiE hke rfl Try.underlying29 Try.underlying3 rfl) ?_
        refine At.wp (some 42) (P_indexAddr_slz (j := k) rfl Try.underlying31 sz5 rfl (g7a (by omega)) rfl (by omega) (by omega)) ?_
        refine At.wq (some 43) (Q_loadM (k := 7) (0#8) rfl rfl Try.underlying5 rfl rfl (by first | omega | (simp <;> omega))) ?_
        refine At.wp (some 44) (P_indexAddr_arr1 (j := 1) rfl Try.underlying50 sz3 rfl rfl rfl (by decide)) ?_
        refine At.wq (some 45) (Q_loadO (k := 5) rfl rfl Try.underlying3 rfl rfl rfl) ?_
        refine At.wp (some 46) (P_conv_iw UK.u8 rfl Try.underlying3 Try.underlying5 rfl) ?_
        refine At.wqn ?_
        refine At.wt rfl ?_
        refine At.p (some 47) (P_xor_w UK.u8 rfl rfl rfl) ?_
        refine At.p (some 48) (P_indexAddr_slz (j := k) rfl Try.underlying31 sz5 rfl (g7a (by omega)) rfl (by omega) (by omega)) ?_
        refine At.s (S_storeM none (f := u8V) (k := 7) rfl rfl rfl sz5 rfl rfl rfl (by first | omega | (simp <;> omega)) ?_)
        refine At.nil ?_
        refine At.next ?_
        refine At.to [(3, _), (5, _), (7, .slice A7 (L.set k ((L.getD k 0#8) ^^^ BitVec.ofInt 8 b1)).length c7)] [(3, _), (5, _), (7, ⟨true, b7, 0, 5, (L.set k ((L.getD k 0#8) ^^^ BitVec.ofInt 8 b1)).map u8V, c7 - (L.set k ((L.getD k 0#8) ^^^ BitVec.ofInt 8 b1)).length⟩)] (AllL.cons_ (rfl) (AllL.cons_ (rfl) (AllL.cons_ (by rw [List.length_set]; rfl) trivial))) (AllL.cons_ (rfl) (AllL.cons_ (rfl) (AllL.cons_ (by rw [List.length_set]; rfl) trivial))) ?_
        exact hKj2 _ _ ⟨_, _, _, _, rfl, rfl, by rw [List.length_set]; exact hL, g7a, by rw [List.length_set]; exact g7b⟩
      · -- cond 32 f
        refine At.skip ?_
        refine At.next ?_
        refine At.to [(3, _), (5, _), (7, _)] [(3, _), (5, _), (7, _)] (AllL.cons_ (rfl) (AllL.cons_ (rfl) (AllL.cons_ (rfl) trivial))) (AllL.cons_ (rfl) (AllL.cons_ (rfl) (AllL.cons_ (rfl) trivial))) ?_
        exact hKj2 _ _ ⟨_, _, _, _, rfl, rfl, hL, g7a, g7b⟩
    · rintro fr H ⟨L, b7, c7, A7, rfl, rfl, hL, g7a, g7b⟩
      refine At.seq ?_
      refine At.region ?_
      refine At.p (some 50) (P_fieldAddr0 (off := 0) rfl Try.underlying44 rfl sz22 rfl rfl) ?_
      refine At.q (some 51) (Q_loadN (k := 3) (j := 0) (cs := key.map u8V) rfl rfl Try.underlying22 rfl sz22 rfl rfl rfl (by rw [List.drop_zero, List.take_append_of_le_length (by rw [List.length_map, hkey]; decide), List.take_of_length_le (by rw [List.length_map, hkey]; decide)]) (by rw [List.length_map, hkey])) ?_
      refine At.p (some 52) (P_fieldAddr0 (off := 32) rfl Try.underlying44 rfl sz24 rfl rfl) ?_
      refine At.q (some 53) (Q_loadN (k := 3) (j := 32) (cs := nonce.map u8V) rfl rfl Try.underlying24 rfl sz24 rfl rfl rfl (by rw [List.drop_left' (by rw [List.length_map, hkey]), List.take_of_length_le (by rw [List.length_map, hnonce]; decide)]) (by rw [List.length_map, hnonce])) ?_
      refine At.p (some 54) (P_move rfl rfl) ?_
      refine At.s (S_callV (some 55) [(7, _), (99, _)] [8] (vs := [_, _, _, _]) rfl en24 rfl (VN (by simp) rfl View.all (VE rfl rfl V0)) (by simp) (c_OpenU (b := L) (more := []) (nb := L.length) (nm := 0) (br := 0) (r := 0) rfl rfl hkey hnonce (fun h => g7a (by omega)) (fun h => absurd h (by decide)) (by omega) (by decide) g7b) (by rintro _ _ ⟨A8, b8, c8, g8a, g8b, rfl, rfl⟩; rfl) ?_)
      rintro _ _ ⟨A8, b8, c8, g8a, g8b, rfl, rfl⟩
      refine At.p (some 49) (P_move rfl rfl) ?_
      refine At.p (some 56) (P_extract rfl rfl rfl) ?_
      refine At.p (some 57) (P_extract rfl rfl rfl) ?_
      refine At.p (some 8) (P_assign rfl rfl) ?_
      refine At.p (some 9) (P_assign rfl rfl) ?_
      refine At.nil ?_
      refine At.next ?_
      refine At.seq ?_
      refine At.region ?_
      refine At.p (some 59) (P_fieldAddr0 (off := 0) rfl Try.underlying44 rfl sz22 rfl rfl) ?_
      refine At.q (some 60) (Q_loadN (k := 3) (j := 0) (cs := key.map u8V) rfl rfl Try.underlying22 rfl sz22 rfl rfl rfl (by rw [List.drop_zero, List.take_append_of_le_length (by rw [List.length_map, hkey]; decide), List.take_of_length_le (by rw [List.length_map, hkey]; decide)]) (by rw [List.length_map, hkey])) ?_
      refine At.p (some 61) (P_fieldAddr0 (off := 32) rfl Try.underlying44 rfl sz24 rfl rfl) ?_
      refine At.q (some 62) (Q_loadN (k := 3) (j := 32) (cs := nonce.map u8V) rfl rfl Try.underlying24 rfl sz24 rfl rfl rfl (by rw [List.drop_left' (by rw [List.length_map, hkey]), List.take_of_length_le (by rw [List.length_map, hnonce]; decide)]) (by rw [List.length_map, hnonce])) ?_
      refine At.p (some 63) (P_move rfl rfl) ?_
      refine At.s (S_callV (some 64) [(7, _), (99, _)] [10] (vs := [_, _, _, _]) rfl en27 rfl (VN (by simp) rfl View.all (VE rfl rfl V0)) (by simp) (r_OpenU (b := L) (more := []) (nb := L.length) (nm := 0) (br := 0) (r := 0) rfl rfl hkey hnonce (fun h => g7a (by omega)) (fun h => absurd h (by decide)) (by omega) (by decide) g7b) (by rintro _ _ ⟨A10, b10, c10, g10a, g10b, rfl, rfl⟩; rfl) ?_)
      rintro _ _ ⟨A10, b10, c10, g10a, g10b, rfl, rfl⟩
      refine At.p (some 58) (P_move rfl rfl) ?_
      refine At.p (some 65) (P_extract rfl rfl rfl) ?_
      refine At.p (some 66) (P_extract rfl rfl rfl) ?_
      refine At.p (some 10) (P_assign rfl rfl) ?_
      refine At.p (some 11) (P_assign rfl rfl) ?_
      refine At.nil ?_
      refine At.next ?_
      refine At.seq ?_
      refine At.region ?_
      refine At.s (S_callV (some 67) [] [] (vs := []) rfl en25 rfl V0 (by simp) (c_seals) (by rintro _ _ ⟨rfl, rfl⟩; rfl) ?_)
      rintro _ _ ⟨rfl, rfl⟩
      refine At.p (some 68) (P_move rfl rfl) ?_
      refine At.gy (t := 68) rfl rfl rfl rfl ?_
      refine At.p (some 69) (P_move rfl rfl) ?_
      refine At.gy (t := 68) rfl rfl rfl rfl ?_
      refine At.p (some 70) (P_cmp rfl rfl rfl rfl rfl rfl) ?_
      refine At.gy (t := 68) rfl rfl rfl rfl ?_
      refine At.p (some 71) (P_move rfl rfl) ?_
      refine At.gy (t := 68) rfl rfl rfl rfl ?_
      refine At.p (some 72) (P_eql_bool rfl Try.underlying4 rfl rfl) ?_
      refine At.p (some 73) (P_pick_t rfl rfl rfl rfl) ?_
      refine At.p (some 74) (P_move rfl rfl) ?_
      refine At.gy (t := 74) rfl (by rw [openE_ok]; simp) rfl rfl ?_
      refine At.p (some 75) (P_move rfl rfl) ?_
      refine At.gy (t := 74) rfl (by rw [openE_ok]; simp) rfl rfl ?_
      refine At.q (some 76) (Q_strN (l := openT key nonce L []) (n := (openT key nonce L []).length) (k := 8) (j := 0) rfl rfl Try.underlying31 Try.underlying5 Try.underlying9 rfl (fun h => g8a (by omega)) (fun _ => ⟨rfl, rfl, rfl⟩) (by rw [List.drop_zero, List.take_of_length_le (by rw [List.length_map]; exact Nat.le_refl _)])) ?_
      refine At.gy (t := 74) rfl (by rw [openE_ok]; simp) rfl rfl ?_
      refine At.p (some 77) (P_move rfl rfl) ?_
      refine At.gy (t := 74) rfl (by rw [openE_ok]; simp) rfl rfl ?_
      refine At.q (some 78) (Q_strN (l := openT key nonce L []) (n := (openT key nonce L []).length) (k := 10) (j := 0) rfl rfl Try.underlying31 Try.underlying5 Try.underlying9 rfl (fun h => g10a (by omega)) (fun _ => ⟨rfl, rfl, rfl⟩) (by rw [List.drop_zero, List.take_of_length_le (by rw [List.length_map]; exact Nat.le_refl _)])) ?_
      refine At.gy (t := 74) rfl (by rw [openE_ok]; simp) rfl rfl ?_
      refine At.p (some 79) (P_eql_str rfl rfl rfl) ?_
      refine At.p (some 80) (P_pick_t rfl rfl (by rw [openE_ok]; simp) rfl) ?_
      refine At.p (some 81) (P_move rfl rfl) ?_
      refine At.gy (t := 81) rfl (by simp) rfl rfl ?_
      refine At.p (some 82) (P_move rfl rfl) ?_
      refine At.gy (t := 81) rfl (by simp) rfl rfl ?_
      refine At.p (some 83) (P_cmp rfl rfl rfl rfl rfl rfl) ?_
      refine At.gy (t := 81) rfl (by simp) rfl rfl ?_
      refine At.p (some 84) (P_move rfl rfl) ?_
      refine At.gsplit (t := 84) (want := false) rfl (fun g1 => ?_) (fun g1 => ?_)
      ·
        refine At.gy (t := 84) rfl g1 rfl rfl ?_
        refine At.p (some 85) (P_move rfl rfl) ?_
        refine At.gy (t := 84) rfl g1 rfl rfl ?_
        refine At.p (some 86) (P_cmp rfl rfl rfl rfl rfl rfl) ?_
        refine At.gy (t := 84) rfl g1 rfl rfl ?_
        refine At.p (some 87) (P_move rfl rfl) ?_
        refine At.gy (t := 84) rfl g1 rfl rfl ?_
        refine At.p (some 88) (P_len_sl rfl rfl ⟨_, Try.underlying31⟩ rfl) ?_
        refine At.gy (t := 84) rfl g1 rfl rfl ?_
        refine At.p (some 89) (P_cmp rfl rfl rfl rfl rfl rfl) ?_
        refine At.gy (t := 84) rfl g1 rfl rfl ?_
        refine At.p (some 90) (P_eql_bool rfl Try.underlying4 rfl rfl) ?_
        refine At.gy (t := 84) rfl g1 rfl rfl ?_
        refine At.p (some 91) (P_move rfl rfl) ?_
        refine At.gy (t := 91) rfl (by rw [openE_short]; simp) rfl rfl ?_
        refine At.p (some 92) (P_move rfl rfl) ?_
        refine At.gy (t := 91) rfl (by rw [openE_short]; simp) rfl rfl ?_
        refine At.p (some 93) (P_cmp rfl rfl rfl rfl rfl rfl) ?_
        refine At.gy (t := 91) rfl (by rw [openE_short]; simp) rfl rfl ?_
        refine At.p (some 94) (P_move rfl rfl) ?_
        refine At.gsplit (t := 94) (want := false) rfl (fun g2 => ?_) (fun g2 => ?_)
        ·
          refine At.gy (t := 94) rfl g2 rfl rfl ?_
          refine At.p (some 95) (P_move rfl rfl) ?_
          refine At.gy (t := 94) rfl g2 rfl rfl ?_
          refine At.p (some 96) (P_cmp rfl rfl rfl rfl rfl rfl) ?_
          refine At.gy (t := 91) rfl (by rw [openE_short]; simp) rfl rfl ?_
          refine At.p (some 97) (P_pick_f rfl rfl g2 rfl) ?_
          refine At.gy (t := 84) rfl g1 rfl rfl ?_
          refine At.p (some 98) (P_pick_t rfl rfl (by rw [openE_short]; simp) rfl) ?_
          refine At.gy (t := 81) rfl (by simp) rfl rfl ?_
          refine At.p (some 99) (P_pick_f rfl rfl g1 rfl) ?_
          refine At.p (some 100) (P_pick_t rfl rfl (by simp) rfl) ?_
          refine At.p (some 6) (P_assign rfl rfl) ?_
          refine At.nil ?_
          refine At.next ?_
          refine At.ret ?_
          refine At.give (.inl rfl) [] (rows' := []) (vs := [_]) rfl ⟨rfl, trivial⟩ rfl (by simp) (by simp) ⟨congrArg Value.bool (by first | rfl | (simp only [decide_eq_true_eq]; simp_all) | (simp_all [openE_some])), rfl⟩
        ·
          refine At.gn (some 95) (t := 94) rfl g2 rfl rfl ?_
          refine At.gn (some 96) (t := 94) rfl g2 rfl rfl ?_
          refine At.gy (t := 91) rfl (by rw [openE_short]; simp) rfl rfl ?_
          refine At.p (some 97) (P_pick_t rfl rfl g2 rfl) ?_
          refine At.gy (t := 84) rfl g1 rfl rfl ?_
          refine At.p (some 98) (P_pick_t rfl rfl (by rw [openE_short]; simp) rfl) ?_
          refine At.gy (t := 81) rfl (by simp) rfl rfl ?_
          refine At.p (some 99) (P_pick_f rfl rfl g1 rfl) ?_
          refine At.p (some 100) (P_pick_t rfl rfl (by simp) rfl) ?_
          refine At.p (some 6) (P_assign rfl rfl) ?_
          refine At.nil ?_
          refine At.next ?_
          refine At.ret ?_
          refine At.give (.inl rfl) [] (rows' := []) (vs := [_]) rfl ⟨rfl, trivial⟩ rfl (by simp) (by simp) ⟨congrArg Value.bool (by first | rfl | (simp only [decide_eq_true_eq]; simp_all) | (simp_all [openE_some])), rfl⟩
      ·
        refine At.gn (some 85) (t := 84) rfl g1 rfl rfl ?_
        refine At.gn (some 86) (t := 84) rfl g1 rfl rfl ?_
        refine At.gn (some 87) (t := 84) rfl g1 rfl rfl ?_
        refine At.gn (some 88) (t := 84) rfl g1 rfl rfl ?_
        refine At.gn (some 89) (t := 84) rfl g1 rfl rfl ?_
        refine At.gn (some 90) (t := 84) rfl g1 rfl rfl ?_
        refine At.gn (some 91) (t := 84) rfl g1 rfl rfl ?_
        refine At.gu (some 92) (t := 91) rfl rfl rfl ?_
        refine At.gu (some 93) (t := 91) rfl rfl rfl ?_
        refine At.gu (some 94) (t := 91) rfl rfl rfl ?_
        refine At.gu (some 95) (t := 94) rfl rfl rfl ?_
        refine At.gu (some 96) (t := 94) rfl rfl rfl ?_
        refine At.gu (some 97) (t := 91) rfl rfl rfl ?_
        refine At.gn (some 98) (t := 84) rfl g1 rfl rfl ?_
        refine At.gy (t := 81) rfl (by simp) rfl rfl ?_
        refine At.p (some 99) (P_pick_t rfl rfl g1 rfl) ?_
        refine At.p (some 100) (P_pick_t rfl rfl (by simp) rfl) ?_
        refine At.p (some 6) (P_assign rfl rfl) ?_
        refine At.nil ?_
        refine At.next ?_
        refine At.ret ?_
        refine At.give (.inl rfl) [] (rows' := []) (vs := [_]) rfl ⟨rfl, trivial⟩ rfl (by simp) (by simp) ⟨congrArg Value.bool (by first | rfl | (simp only [decide_eq_true_eq]; simp_all) | (simp_all [openE_some])), rfl⟩

set_option maxHeartbeats 1000000 in
theorem l_Apart (kn text : List (BitVec 8)) (z : Int) (A : Option Addr) (ca bq q : Nat) (hkn : kn.length = 44) (hA : 0 < text.length → A = some ⟨bq, q, none⟩) (hca : text.length ≤ ca) :
    Con Try.prog 14 [.agg (kn.map u8V).toArray, .slice A text.length ca, iV z] [pRow bq q text] (fun v rs => v = .bool true ∧ rs = []) := by
  refine Con.enter Try.func14 Try.ntmps14 (Nat.le_of_ble_eq_true rfl) rfl fun w => ?_
  refine At.seq ?_
  obtain ⟨n, hn⟩ : ∃ n, n = min text.length 100 := ⟨_, rfl⟩
  have hn2 : (text.take n).length = n := by simp; omega
  have hsl : (sealS (kn.take 32) (kn.drop 32) (text.take n) [97#8]).length = n + 16 := by rw [sealS_len, hn2]
  obtain ⟨k, hk, hke⟩ := umod_nat (BitVec.ofInt 64 z) 3#64 (by decide) (by decide)
  have hk : k < 3 := hk
  refine At.region ?_
  refine At.s (S_box (some 3) 3 (zs := kn.map u8V) rfl rfl rfl (fun b3 => ?_))
  refine At.p (some 6) (P_assign rfl rfl) ?_
  refine At.nil ?_
  refine At.next ?_
  refine At.seq ?_
  refine At.region ?_
  refine At.p (some 13) (P_move rfl rfl) ?_
  refine At.p (some 14) (P_move rfl rfl) ?_
  refine At.p (some 15) (P_len_sl rfl rfl ⟨_, Try.underlying31⟩ rfl) ?_
  refine At.p (some 16) (P_min2 rfl rfl rfl rfl) ?_
  refine At.p (some 17) (P_slice_sl (h := n) rfl Try.underlying31 sz5 rfl rfl ⟨_, _, rfl, by omega⟩ rfl (by omega) (by omega) (by omega)) ?_
  refine At.p (some 1) (P_assign rfl rfl) ?_
  refine At.nil ?_
  refine At.next ?_
  refine At.seq ?_
  refine At.region ?_
  refine At.p (some 18) (P_fieldAddr0 (off := 0) rfl Try.underlying44 rfl sz22 rfl rfl) ?_
  refine At.q (some 19) (Q_loadN (k := 3) (j := 0) (cs := (kn.take 32).map u8V) rfl rfl Try.underlying22 rfl sz22 rfl rfl rfl (by rw [List.drop_zero, List.map_take]) (by rw [List.length_map, List.length_take]; omega)) ?_
  refine At.p (some 20) (P_fieldAddr0 (off := 32) rfl Try.underlying44 rfl sz24 rfl rfl) ?_
  refine At.q (some 21) (Q_loadN (k := 3) (j := 32) (cs := (kn.drop 32).map u8V) rfl rfl Try.underlying24 rfl sz24 rfl rfl rfl (by rw [← List.map_drop, List.take_of_length_le (by rw [List.length_map, List.length_drop]; omega)]) (by rw [List.length_map, List.length_drop]; omega)) ?_
  refine At.p (some 22) (P_move rfl rfl) ?_
  refine At.s (S_buildSliceV (some 23) 23 ([97#8].map u8V) rfl Try.underlying31 sz5 ze5 rfl rfl (by decide) (by decide) rfl rfl (fun b23 => ?_))
  refine At.s (S_convB (some 24) (k := 23) rfl Try.underlying31 Try.underlying5 rfl rfl (by simp) ?_)
  refine At.s (S_callV (some 25) [(0, _), (23, _)] [7] (vs := [_, _, _, _]) rfl en23 rfl (VN (by simp) rfl (View.sub (j := 0) (m := n) rfl rfl) (VN (by simp) rfl View.all V0)) (by simp) (c_SealN (key := kn.take 32) (nonce := kn.drop 32) (b := (text.take n)) (more := [97#8]) (nb := n) (nm := 1) hn2 rfl (by simp; omega) (by simp; omega) (fun h => cut_zero (hA (by omega))) (fun _ => rfl) (by omega) (by decide)) (by rintro _ _ ⟨A7, b7, c7, g7a, g7b, rfl, rfl⟩; rfl) ?_)
  rintro _ _ ⟨A7, b7, c7, g7a, g7b, rfl, rfl⟩
  refine At.p (some 7) (P_assign rfl rfl) ?_
  refine At.nil ?_
  refine At.next ?_
  refine At.seq ?_
  refine At.region ?_
  refine At.s (S_buildSliceV (some 26) 26 ([97#8].map u8V) rfl Try.underlying31 sz5 ze5 rfl rfl (by decide) (by decide) rfl rfl (fun b26 => ?_))
  refine At.s (S_convB (some 27) (k := 26) rfl Try.underlying31 Try.underlying5 rfl rfl (by simp) ?_)
  refine At.p (some 8) (P_assign rfl rfl) ?_
  refine At.nil ?_
  refine At.next ?_
  refine At.seqJ (fun fr H => ∃ (k2 more : List (BitVec 8)) (b8 : Nat), fr = frOf [(3, ptr b3 0), (7, .slice A7 (sealS (kn.take 32) (kn.drop 32) (text.take n) [97#8]).length c7), (8, .slice (some ⟨b8, 0, none⟩) more.length more.length)] ∧ H = hOf [(3, ⟨true, b3, 0, 44, (k2).map u8V, 0⟩), (7, ⟨true, b7, 0, 5, (sealS (kn.take 32) (kn.drop 32) (text.take n) [97#8]).map u8V, c7 - (sealS (kn.take 32) (kn.drop 32) (text.take n) [97#8]).length⟩), (8, ⟨true, b8, 0, 5, more.map u8V, 0⟩)] ∧ k2.length = 44 ∧ more.length ≤ 2) ?_ ?_
  · intro Kj1 hKj1
    refine At.seq ?_
    refine At.region ?_
    refine At.p (some 28) (P_move rfl rfl) ?_
    refine At.p (some 29) (P_conv_iw UK.u64 rfl Try.underlying3 Try.underlying29 rfl) ?_
    refine At.p (some 30) (P_rem_w UK.u64 (b := 3#64) rfl rfl rfl (by decide)) ?_
    refine At.p (some 31) (P_conv_WiE hke rfl Try.underlying29 Try.underlying3 rfl) ?_
    refine At.nil ?_
    refine At.next ?_
    refine At.block ?_
    refine At.seq ?_
    refine At.region ?_
    refine At.p (some 33) (P_cmp rfl rfl rfl rfl rfl rfl) ?_
    refine At.p (some 32) (P_assign rfl rfl) ?_
    refine At.nil ?_
    refine At.next ?_
    refine At.cond rfl (fun h32 => ?_) (fun h32 => ?_)
    · -- cond 32 t
      refine At.region ?_
      refine At.s (S_buildSliceV (some 34) 34 ([97#8, 0#8].map u8V) rfl Try.underlying31 sz5 ze5 rfl rfl (by decide) (by decide) rfl ⟨rfl, rfl⟩ (fun b34 => ?_))
      refine At.s (S_convB (some 35) (k := 34) rfl Try.underlying31 Try.underlying5 rfl rfl (by simp) ?_)
      refine At.p (some 8) (P_assign rfl rfl) ?_
      refine At.nil ?_
      refine At.inb_n ?_
      refine At.next ?_
      refine At.swap 8 34 ?_
      refine At.to [(3, _), (7, _), (8, .slice (some ⟨b34, 0, none⟩) [97#8, 0#8].length [97#8, 0#8].length)] [(3, _), (7, _), (8, ⟨true, b34, 0, 5, [97#8, 0#8].map u8V, 0⟩)] (AllL.cons_ (rfl) (AllL.cons_ (rfl) (AllL.cons_ (rfl) trivial))) (AllL.cons_ (rfl) (AllL.cons_ (rfl) (AllL.cons_ (rfl) trivial))) ?_
      exact hKj1 _ _ ⟨kn, [97#8, 0#8], b34, rfl, rfl, hkn, by decide⟩
    · -- cond 32 f
      refine At.seq ?_
      refine At.region ?_
      refine At.p (some 37) (P_cmp rfl rfl rfl rfl rfl rfl) ?_
      refine At.p (some 36) (P_assign rfl rfl) ?_
      refine At.nil ?_
      refine At.next ?_
      refine At.cond rfl (fun h36 => ?_) (fun h36 => ?_)
      · -- cond 36 t
        refine At.region ?_
        refine At.p (some 38) (P_fieldAddr0 (off := 32) rfl Try.underlying44 rfl sz24 rfl rfl) ?_
        refine At.p (some 39) (P_indexAddr_arr (j := 11) rfl Try.underlying24 sz5 rfl rfl rfl (by decide)) ?_
        refine At.q (some 40) (Q_loadM (k := 3) (0#8) rfl rfl Try.underlying5 rfl rfl (by first | omega | (simp <;> omega))) ?_
        refine At.p (some 41) (P_xor_w UK.u8 (b := 1#8) rfl rfl rfl) ?_
        refine At.p (some 42) (P_fieldAddr0 (off := 32) rfl Try.underlying44 rfl sz24 rfl rfl) ?_
        refine At.p (some 43) (P_indexAddr_arr (j := 11) rfl Try.underlying24 sz5 rfl rfl rfl (by decide)) ?_
        refine At.s (S_storeM none (f := u8V) (k := 3) rfl rfl rfl sz5 rfl rfl rfl (by first | omega | (simp <;> omega)) ?_)
        refine At.nil ?_
        refine At.inb_n ?_
        refine At.next ?_
        refine At.swap 8 26 ?_
        refine At.to [(3, _), (7, _), (8, .slice (some ⟨b26, 0, none⟩) [97#8].length [97#8].length)] [(3, _), (7, _), (8, ⟨true, b26, 0, 5, [97#8].map u8V, 0⟩)] (AllL.cons_ (rfl) (AllL.cons_ (rfl) (AllL.cons_ (rfl) trivial))) (AllL.cons_ (rfl) (AllL.cons_ (rfl) (AllL.cons_ (rfl) trivial))) ?_
        exact hKj1 _ _ ⟨kn.set 43 (kn.getD 43 0#8 ^^^ 1#8), [97#8], b26, rfl, rfl, by rw [List.length_set]; exact hkn, by decide⟩
      · -- cond 36 f
        refine At.seq ?_
        refine At.region ?_
        refine At.p (some 45) (P_cmp rfl rfl rfl rfl rfl rfl) ?_
        refine At.p (some 44) (P_assign rfl rfl) ?_
        refine At.nil ?_
        refine At.next ?_
        refine At.cond rfl (fun h44 => ?_) (fun h44 => ?_)
        · -- cond 44 t
          refine At.region ?_
          refine At.p (some 46) (P_fieldAddr0 (off := 0) rfl Try.underlying44 rfl sz22 rfl rfl) ?_
          refine At.p (some 47) (P_indexAddr_arr1 (j := 5) rfl Try.underlying22 sz5 rfl rfl rfl (by decide)) ?_
          refine At.q (some 48) (Q_loadM (k := 3) (0#8) rfl rfl Try.underlying5 rfl rfl (by first | omega | (simp <;> omega))) ?_
          refine At.p (some 49) (P_xor_w UK.u8 (b := 4#8) rfl rfl rfl) ?_
          refine At.p (some 50) (P_fieldAddr0 (off := 0) rfl Try.underlying44 rfl sz22 rfl rfl) ?_
          refine At.p (some 51) (P_indexAddr_arr1 (j := 5) rfl Try.underlying22 sz5 rfl rfl rfl (by decide)) ?_
          refine At.s (S_storeM none (f := u8V) (k := 3) rfl rfl rfl sz5 rfl rfl rfl (by first | omega | (simp <;> omega)) ?_)
          refine At.nil ?_
          refine At.inb_n ?_
          refine At.next ?_
          refine At.swap 8 26 ?_
          refine At.to [(3, _), (7, _), (8, .slice (some ⟨b26, 0, none⟩) [97#8].length [97#8].length)] [(3, _), (7, _), (8, ⟨true, b26, 0, 5, [97#8].map u8V, 0⟩)] (AllL.cons_ (rfl) (AllL.cons_ (rfl) (AllL.cons_ (rfl) trivial))) (AllL.cons_ (rfl) (AllL.cons_ (rfl) (AllL.cons_ (rfl) trivial))) ?_
          exact hKj1 _ _ ⟨kn.set 5 (kn.getD 5 0#8 ^^^ 4#8), [97#8], b26, rfl, rfl, by rw [List.length_set]; exact hkn, by decide⟩
        · -- cond 44 f
          refine At.skip ?_
          refine At.inb_n ?_
          refine At.next ?_
          refine At.swap 8 26 ?_
          refine At.to [(3, _), (7, _), (8, .slice (some ⟨b26, 0, none⟩) [97#8].length [97#8].length)] [(3, _), (7, _), (8, ⟨true, b26, 0, 5, [97#8].map u8V, 0⟩)] (AllL.cons_ (rfl) (AllL.cons_ (rfl) (AllL.cons_ (rfl) trivial))) (AllL.cons_ (rfl) (AllL.cons_ (rfl) (AllL.cons_ (rfl) trivial))) ?_
          exact hKj1 _ _ ⟨kn, [97#8], b26, rfl, rfl, hkn, by decide⟩
  · rintro fr H ⟨k2, more, b8, rfl, rfl, hk2, hmo⟩
    refine At.seq ?_
    refine At.region ?_
    refine At.p (some 53) (P_fieldAddr0 (off := 0) rfl Try.underlying44 rfl sz22 rfl rfl) ?_
    refine At.q (some 54) (Q_loadN (k := 3) (j := 0) (cs := (k2.take 32).map u8V) rfl rfl Try.underlying22 rfl sz22 rfl rfl rfl (by rw [List.drop_zero, List.map_take]) (by rw [List.length_map, List.length_take]; omega)) ?_
    refine At.p (some 55) (P_fieldAddr0 (off := 32) rfl Try.underlying44 rfl sz24 rfl rfl) ?_
    refine At.q (some 56) (Q_loadN (k := 3) (j := 32) (cs := (k2.drop 32).map u8V) rfl rfl Try.underlying24 rfl sz24 rfl rfl rfl (by rw [← List.map_drop, List.take_of_length_le (by rw [List.length_map, List.length_drop]; omega)]) (by rw [List.length_map, List.length_drop]; omega)) ?_
    refine At.p (some 57) (P_move rfl rfl) ?_
    refine At.p (some 58) (P_move rfl rfl) ?_
    refine At.s (S_callV (some 59) [(7, _), (8, _)] [9] (vs := [_, _, _, _]) rfl en24 rfl (VN (by simp) rfl View.all (VN (by simp) rfl View.all V0)) (by simp) (c_OpenU (key := k2.take 32) (nonce := k2.drop 32) (b := (sealS (kn.take 32) (kn.drop 32) (text.take n) [97#8])) (more := more) (nb := (sealS (kn.take 32) (kn.drop 32) (text.take n) [97#8]).length) (nm := more.length) rfl rfl (by simp; omega) (by simp; omega) (fun h => g7a (by omega)) (fun _ => rfl) (by omega) (by omega) g7b) (by rintro _ _ ⟨A9, b9, c9, g9a, g9b, rfl, rfl⟩; rfl) ?_)
    rintro _ _ ⟨A9, b9, c9, g9a, g9b, rfl, rfl⟩
    refine At.p (some 52) (P_move rfl rfl) ?_
    refine At.p (some 60) (P_extract rfl rfl rfl) ?_
    refine At.p (some 61) (P_extract rfl rfl rfl) ?_
    refine At.p (some 9) (P_assign rfl rfl) ?_
    refine At.p (some 10) (P_assign rfl rfl) ?_
    refine At.nil ?_
    refine At.next ?_
    refine At.seq ?_
    refine At.region ?_
    refine At.p (some 63) (P_fieldAddr0 (off := 0) rfl Try.underlying44 rfl sz22 rfl rfl) ?_
    refine At.q (some 64) (Q_loadN (k := 3) (j := 0) (cs := (k2.take 32).map u8V) rfl rfl Try.underlying22 rfl sz22 rfl rfl rfl (by rw [List.drop_zero, List.map_take]) (by rw [List.length_map, List.length_take]; omega)) ?_
    refine At.p (some 65) (P_fieldAddr0 (off := 32) rfl Try.underlying44 rfl sz24 rfl rfl) ?_
    refine At.q (some 66) (Q_loadN (k := 3) (j := 32) (cs := (k2.drop 32).map u8V) rfl rfl Try.underlying24 rfl sz24 rfl rfl rfl (by rw [← List.map_drop, List.take_of_length_le (by rw [List.length_map, List.length_drop]; omega)]) (by rw [List.length_map, List.length_drop]; omega)) ?_
    refine At.p (some 67) (P_move rfl rfl) ?_
    refine At.p (some 68) (P_move rfl rfl) ?_
    refine At.s (S_callV (some 69) [(7, _), (8, _)] [11] (vs := [_, _, _, _]) rfl en27 rfl (VN (by simp) rfl View.all (VN (by simp) rfl View.all V0)) (by simp) (r_OpenU (key := k2.take 32) (nonce := k2.drop 32) (b := (sealS (kn.take 32) (kn.drop 32) (text.take n) [97#8])) (more := more) (nb := (sealS (kn.take 32) (kn.drop 32) (text.take n) [97#8]).length) (nm := more.length) rfl rfl (by simp; omega) (by simp; omega) (fun h => g7a (by omega)) (fun _ => rfl) (by omega) (by omega) g7b) (by rintro _ _ ⟨A11, b11, c11, g11a, g11b, rfl, rfl⟩; rfl) ?_)
    rintro _ _ ⟨A11, b11, c11, g11a, g11b, rfl, rfl⟩
    refine At.p (some 62) (P_move rfl rfl) ?_
    refine At.p (some 70) (P_extract rfl rfl rfl) ?_
    refine At.p (some 71) (P_extract rfl rfl rfl) ?_
    refine At.p (some 11) (P_assign rfl rfl) ?_
    refine At.p (some 12) (P_assign rfl rfl) ?_
    refine At.nil ?_
    refine At.next ?_
    refine At.seq ?_
    refine At.region ?_
    refine At.s (S_callV (some 72) [] [] (vs := []) rfl en25 rfl V0 (by simp) (c_seals) (by rintro _ _ ⟨rfl, rfl⟩; rfl) ?_)
    rintro _ _ ⟨rfl, rfl⟩
    refine At.p (some 73) (P_move rfl rfl) ?_
    refine At.gy (t := 73) rfl rfl rfl rfl ?_
    refine At.p (some 74) (P_move rfl rfl) ?_
    refine At.gy (t := 73) rfl rfl rfl rfl ?_
    refine At.p (some 75) (P_cmp rfl rfl rfl rfl rfl rfl) ?_
    refine At.gy (t := 73) rfl rfl rfl rfl ?_
    refine At.p (some 76) (P_move rfl rfl) ?_
    refine At.gy (t := 73) rfl rfl rfl rfl ?_
    refine At.p (some 77) (P_eql_bool rfl Try.underlying4 rfl rfl) ?_
    refine At.p (some 78) (P_pick_t rfl rfl rfl rfl) ?_
    refine At.p (some 79) (P_move rfl rfl) ?_
    refine At.gy (t := 79) rfl (by rw [openE_ok]; simp) rfl rfl ?_
    refine At.p (some 80) (P_move rfl rfl) ?_
    refine At.gy (t := 79) rfl (by rw [openE_ok]; simp) rfl rfl ?_
    refine At.p (some 81) (P_cmp rfl rfl rfl rfl rfl rfl) ?_
    refine At.gy (t := 79) rfl (by rw [openE_ok]; simp) rfl rfl ?_
    refine At.p (some 82) (P_move rfl rfl) ?_
    refine At.gsplit (t := 82) (want := false) rfl (fun g1 => ?_) (fun g1 => ?_)
    ·
      refine At.gy (t := 82) rfl g1 rfl rfl ?_
      refine At.p (some 83) (P_move rfl rfl) ?_
      refine At.gy (t := 82) rfl g1 rfl rfl ?_
      refine At.p (some 84) (P_cmp rfl rfl rfl rfl rfl rfl) ?_
      refine At.gy (t := 79) rfl (by rw [openE_ok]; simp) rfl rfl ?_
      refine At.p (some 85) (P_pick_f rfl rfl g1 rfl) ?_
      refine At.p (some 86) (P_pick_t rfl rfl (by rw [openE_ok]; simp) rfl) ?_
      refine At.p (some 87) (P_move rfl rfl) ?_
      refine At.gy (t := 87) rfl (by first | rfl | (rw [openE_long _ _ _ _ (by omega) (by simpa using g1)]; rfl)) rfl rfl ?_
      refine At.p (some 88) (P_move rfl rfl) ?_
      refine At.gy (t := 87) rfl (by first | rfl | (rw [openE_long _ _ _ _ (by omega) (by simpa using g1)]; rfl)) rfl rfl ?_
      refine At.q (some 89) (Q_strN (l := openT (k2.take 32) (k2.drop 32) (sealS (kn.take 32) (kn.drop 32) (text.take n) [97#8]) more) (n := (openT (k2.take 32) (k2.drop 32) (sealS (kn.take 32) (kn.drop 32) (text.take n) [97#8]) more).length) (k := 9) (j := 0) rfl rfl Try.underlying31 Try.underlying5 Try.underlying9 rfl (fun h => g9a (by omega)) (fun _ => ⟨rfl, rfl, rfl⟩) (by rw [List.drop_zero, List.take_of_length_le (by rw [List.length_map]; exact Nat.le_refl _)])) ?_
      refine At.gy (t := 87) rfl (by first | rfl | (rw [openE_long _ _ _ _ (by omega) (by simpa using g1)]; rfl)) rfl rfl ?_
      refine At.p (some 90) (P_move rfl rfl) ?_
      refine At.gy (t := 87) rfl (by first | rfl | (rw [openE_long _ _ _ _ (by omega) (by simpa using g1)]; rfl)) rfl rfl ?_
      refine At.q (some 91) (Q_strN (l := openT (k2.take 32) (k2.drop 32) (sealS (kn.take 32) (kn.drop 32) (text.take n) [97#8]) more) (n := (openT (k2.take 32) (k2.drop 32) (sealS (kn.take 32) (kn.drop 32) (text.take n) [97#8]) more).length) (k := 11) (j := 0) rfl rfl Try.underlying31 Try.underlying5 Try.underlying9 rfl (fun h => g11a (by omega)) (fun _ => ⟨rfl, rfl, rfl⟩) (by rw [List.drop_zero, List.take_of_length_le (by rw [List.length_map]; exact Nat.le_refl _)])) ?_
      refine At.gy (t := 87) rfl (by first | rfl | (rw [openE_long _ _ _ _ (by omega) (by simpa using g1)]; rfl)) rfl rfl ?_
      refine At.p (some 92) (P_eql_str rfl rfl rfl) ?_
      refine At.p (some 93) (P_pick_t rfl rfl (by first | rfl | (rw [openE_long _ _ _ _ (by omega) (by simpa using g1)]; rfl)) rfl) ?_
      refine At.p (some 6) (P_assign rfl rfl) ?_
      refine At.nil ?_
      refine At.next ?_
      refine At.ret ?_
      refine At.give (.inl rfl) [] (rows' := []) (vs := [_]) rfl ⟨rfl, trivial⟩ rfl (by simp) (by simp) ⟨congrArg Value.bool (by simp), rfl⟩
    ·
      refine At.gn (some 83) (t := 82) rfl g1 rfl rfl ?_
      refine At.gn (some 84) (t := 82) rfl g1 rfl rfl ?_
      refine At.gy (t := 79) rfl (by rw [openE_ok]; simp) rfl rfl ?_
      refine At.p (some 85) (P_pick_t rfl rfl g1 rfl) ?_
      refine At.p (some 86) (P_pick_t rfl rfl (by rw [openE_ok]; simp) rfl) ?_
      refine At.p (some 87) (P_move rfl rfl) ?_
      refine At.gy (t := 87) rfl rfl rfl rfl ?_
      refine At.p (some 88) (P_move rfl rfl) ?_
      refine At.gy (t := 87) rfl rfl rfl rfl ?_
      refine At.q (some 89) (Q_strN (l := openT (k2.take 32) (k2.drop 32) (sealS (kn.take 32) (kn.drop 32) (text.take n) [97#8]) more) (n := (openT (k2.take 32) (k2.drop 32) (sealS (kn.take 32) (kn.drop 32) (text.take n) [97#8]) more).length) (k := 9) (j := 0) rfl rfl Try.underlying31 Try.underlying5 Try.underlying9 rfl (fun h => g9a (by omega)) (fun _ => ⟨rfl, rfl, rfl⟩) (by rw [List.drop_zero, List.take_of_length_le (by rw [List.length_map]; exact Nat.le_refl _)])) ?_
      refine At.gy (t := 87) rfl rfl rfl rfl ?_
      refine At.p (some 90) (P_move rfl rfl) ?_
      refine At.gy (t := 87) rfl rfl rfl rfl ?_
      refine At.q (some 91) (Q_strN (l := openT (k2.take 32) (k2.drop 32) (sealS (kn.take 32) (kn.drop 32) (text.take n) [97#8]) more) (n := (openT (k2.take 32) (k2.drop 32) (sealS (kn.take 32) (kn.drop 32) (text.take n) [97#8]) more).length) (k := 11) (j := 0) rfl rfl Try.underlying31 Try.underlying5 Try.underlying9 rfl (fun h => g11a (by omega)) (fun _ => ⟨rfl, rfl, rfl⟩) (by rw [List.drop_zero, List.take_of_length_le (by rw [List.length_map]; exact Nat.le_refl _)])) ?_
      refine At.gy (t := 87) rfl rfl rfl rfl ?_
      refine At.p (some 92) (P_eql_str rfl rfl rfl) ?_
      refine At.p (some 93) (P_pick_t rfl rfl rfl rfl) ?_
      refine At.p (some 6) (P_assign rfl rfl) ?_
      refine At.nil ?_
      refine At.next ?_
      refine At.ret ?_
      refine At.give (.inl rfl) [] (rows' := []) (vs := [_]) rfl ⟨rfl, trivial⟩ rfl (by simp) (by simp) ⟨congrArg Value.bool (by simp), rfl⟩

theorem l_Apart2 (ka na text : List (BitVec 8)) (z : Int) (A : Option Addr) (ca bq q : Nat) (hka : ka.length = 32) (hna : na.length = 12) (hA : 0 < text.length → A = some ⟨bq, q, none⟩) (hca : text.length ≤ ca) :
    Con Try.prog 14 [.agg (ka.map u8V ++ na.map u8V).toArray, .slice A text.length ca, iV z] [pRow bq q text] (fun v rs => v = .bool true ∧ rs = []) := by
  rw [← List.map_append]
  exact l_Apart (ka ++ na) text z A ca bq q (by simp; omega) hA hca
end Go.Proofs.Ytkdkpjnlknofeaa
