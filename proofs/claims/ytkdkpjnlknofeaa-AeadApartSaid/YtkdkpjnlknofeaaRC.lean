import Derived.Test.YtkdkpjnlknofeaaRB
namespace Go.Proofs.Ytkdkpjnlknofeaa
set_option maxRecDepth 20000
set_option linter.unusedVariables false
set_option linter.unusedSimpArgs false
open Go.SE Go.RowKit
theorem c_OpenS (key nonce b more : List (BitVec 8)) (A A2 : Option Addr) (ca cb bq q br r : Nat) (hkey : key.length = 32) (hnonce : nonce.length = 12) (hA : 0 < b.length → A = some ⟨bq, q, none⟩) (hB : 0 < more.length → A2 = some ⟨br, r, none⟩) (hl : b.length ≤ 100000) (hlm : more.length ≤ 100000) (hca : b.length ≤ ca) (hlen : b.length < 16) :
    Con Try.prog 24 [aggK key, aggK nonce, .slice A b.length ca, .slice A2 more.length cb] [pRow bq q b, pRow br r more] (fun v rs => v = .tuple #[.slice none 0 0, iV 2] ∧ rs = []) := by
  refine Con.enter Try.func24 Try.ntmps24 (Nat.le_of_ble_eq_true rfl) rfl fun w => ?_
  refine At.seq ?_
  have hk32 : key.length = 32 := hkey
  have hn12 : nonce.length = 12 := hnonce
  have hbt : (b.take (b.length - 16)).length = (b.length - 16) := by simp
  have htl := aTag_len key nonce (b.take (b.length - 16)) more
  refine At.region ?_
  refine At.s (S_box (some 4) 4 (zs := key.map u8V) rfl rfl rfl (fun b4 => ?_))
  refine At.s (S_box (some 5) 5 (zs := nonce.map u8V) rfl rfl rfl (fun b5 => ?_))
  refine At.p (some 8) (P_assign rfl rfl) ?_
  refine At.p (some 9) (P_assign rfl rfl) ?_
  refine At.nil ?_
  refine At.next ?_
  refine At.seq ?_
  refine At.region ?_
  refine At.p (some 12) (P_move rfl rfl) ?_
  refine At.p (some 13) (P_len_sl rfl rfl ⟨_, Try.underlying31⟩ rfl) ?_
  refine At.p (some 14) (P_sub_i rfl rfl rfl (by omega)) ?_
  refine At.p (some 10) (P_assign rfl rfl) ?_
  refine At.nil ?_
  refine At.next ?_
  refine At.seq ?_
  refine At.seq ?_
  refine At.region ?_
  refine At.p (some 15) (P_move rfl rfl) ?_
  refine At.p (some 16) (P_cmp rfl rfl rfl rfl rfl rfl) ?_
  refine At.nil ?_
  refine At.next ?_
  refine At.cond rfl (fun h16 => ?_) (fun h16 => by simp at h16; omega)
  refine At.seq ?_
  refine At.region ?_
  refine At.p (some 8) (P_assign rfl rfl) ?_
  refine At.p (some 9) (P_assign rfl rfl) ?_
  refine At.nil ?_
  refine At.next ?_
  refine At.ret ?_
  refine At.thn_r ?_
  refine At.give (.inl rfl) [] (rows' := []) (vs := [_, _]) rfl ⟨rfl, rfl, trivial⟩ rfl (by simp) (by simp) ⟨rfl, rfl⟩

theorem c_OpenSN {key nonce b more : List (BitVec 8)} {nb nm : Nat} {A A2 : Option Addr} {ca cb bq q br r : Nat} (hnb : b.length = nb) (hnm : more.length = nm) (hkey : key.length = 32) (hnonce : nonce.length = 12) (hA : 0 < nb → A = some ⟨bq, q, none⟩) (hB : 0 < nm → A2 = some ⟨br, r, none⟩) (hl : nb ≤ 100000) (hlm : nm ≤ 100000) (hca : nb ≤ ca) (hlen : nb < 16) :
    Con Try.prog 24 [aggK key, aggK nonce, .slice A nb ca, .slice A2 nm cb] [pRow bq q b, pRow br r more] (fun v rs => v = .tuple #[.slice none 0 0, iV 2] ∧ rs = []) := by
  subst hnb hnm
  exact c_OpenS key nonce b more A A2 ca cb bq q br r hkey hnonce hA hB hl hlm hca hlen

theorem c_OpenB (key nonce b more : List (BitVec 8)) (A A2 : Option Addr) (ca cb bq q br r : Nat) (hkey : key.length = 32) (hnonce : nonce.length = 12) (hA : 0 < b.length → A = some ⟨bq, q, none⟩) (hB : 0 < more.length → A2 = some ⟨br, r, none⟩) (hl : b.length ≤ 100000) (hlm : more.length ≤ 100000) (hca : b.length ≤ ca) (hlen : 16 ≤ b.length) (hok : (aTag key nonce (b.take (b.length - 16)) more) ≠ (b.drop (b.length - 16))) :
    Con Try.prog 24 [aggK key, aggK nonce, .slice A b.length ca, .slice A2 more.length cb] [pRow bq q b, pRow br r more] (fun v rs => v = .tuple #[.slice none 0 0, iV 4] ∧ rs = []) := by
  refine Con.enter Try.func24 Try.ntmps24 (Nat.le_of_ble_eq_true rfl) rfl fun w => ?_
  refine At.seq ?_
  have hk32 : key.length = 32 := hkey
  have hn12 : nonce.length = 12 := hnonce
  have hbt : (b.take (b.length - 16)).length = (b.length - 16) := by simp
  have htl := aTag_len key nonce (b.take (b.length - 16)) more
  refine At.region ?_
  refine At.s (S_box (some 4) 4 (zs := key.map u8V) rfl rfl rfl (fun b4 => ?_))
  refine At.s (S_box (some 5) 5 (zs := nonce.map u8V) rfl rfl rfl (fun b5 => ?_))
  refine At.p (some 8) (P_assign rfl rfl) ?_
  refine At.p (some 9) (P_assign rfl rfl) ?_
  refine At.nil ?_
  refine At.next ?_
  refine At.seq ?_
  refine At.region ?_
  refine At.p (some 12) (P_move rfl rfl) ?_
  refine At.p (some 13) (P_len_sl rfl rfl ⟨_, Try.underlying31⟩ rfl) ?_
  refine At.p (some 14) (P_sub_i rfl rfl rfl (by omega)) ?_
  refine At.p (some 10) (P_assign rfl rfl) ?_
  refine At.nil ?_
  refine At.next ?_
  refine At.seq ?_
  refine At.seq ?_
  refine At.region ?_
  refine At.p (some 15) (P_move rfl rfl) ?_
  refine At.p (some 16) (P_cmp rfl rfl rfl rfl rfl rfl) ?_
  refine At.nil ?_
  refine At.next ?_
  refine At.cond rfl (fun h16 => by simp at h16; omega) (fun h16 => ?_)
  refine At.skip ?_
  refine At.next ?_
  refine At.seq ?_
  refine At.draws 8 [] [.q false [0, 1, 2, 3, 4, 5, 6], .e false 7] (by kernel_rfl) (by kernel_rfl) ?_
  refine At.wq (some 17) (Q_loadA (k := 4) rfl rfl Try.underlying22 rfl sz22 (by first | omega | (simp <;> omega)) rfl) ?_
  refine At.wq (some 18) (Q_loadA (k := 5) rfl rfl Try.underlying24 rfl sz24 (by first | omega | (simp <;> omega)) rfl) ?_
  refine At.wp (some 19) (P_move rfl rfl) ?_
  refine At.wp (some 20) (P_move rfl rfl) ?_
  refine At.wp (some 21) (P_slice_sl (h := (b.length - 16)) rfl Try.underlying31 sz5 rfl rfl ⟨_, _, rfl, by omega⟩ rfl (by omega) (by omega) (by omega)) ?_
  refine At.wp (some 22) (P_move rfl rfl) ?_
  refine At.wcV (some 23) [(0, _), (1, _)] (vs := [_, _, _, _]) rfl en40 rfl (VN (by simp) rfl (View.sub (j := 0) (m := (b.length - 16)) rfl rfl) (VN (by simp) rfl View.all V0)) (c_tagN (b := b.take (b.length - 16)) (nb := (b.length - 16)) (nm := more.length) hbt rfl hkey hnonce (fun h => cut_zero (hA (by omega))) hB (by omega) hlm) ?_
  refine At.wqn ?_
  refine At.we ?_
  refine S_alloc (some 11) 11 (zs := (List.replicate 16 0#8).map u8V) rfl ze36 rfl (fun b11 => ?_)
  refine At.wt rfl ?_
  refine At.s (S_storeA none (k := 11) (vs := _) rfl rfl rfl (by first | (rw [sz36]; simp <;> omega) | exact sz36) rfl (by first | (intro u hu; obtain ⟨z, _, rfl⟩ := List.mem_map.1 hu; rfl) | simp [Value.oneCell']) (by first | (simp; done) | (intro h; have h2 := congrArg List.length h; simp only [List.length_map, List.length_nil] at h2; omega) | (intro h; cases h)) rfl (by first | omega | (simp <;> omega) | rfl | (simp [*]; done)) ?_)
  refine At.nil ?_
  refine At.next ?_
  refine At.seq ?_
  refine At.seq ?_
  refine At.draws 4 [] [.q false [0, 1, 2, 3]] (by kernel_rfl) (by kernel_rfl) ?_
  refine At.wp (some 24) (P_slice_arr1 rfl Try.underlying36 sz5 rfl rfl rfl rfl (by omega) (by omega) (by omega) (by omega)) ?_
  refine At.wp (some 25) (P_move rfl rfl) ?_
  refine At.wp (some 26) (P_move rfl rfl) ?_
  refine At.wp (some 27) (P_slice_sl (l := (b.length - 16)) rfl Try.underlying31 sz5 rfl ⟨_, _, rfl, by omega⟩ rfl rfl (by omega) (by omega) (by omega)) ?_
  refine At.wqn ?_
  refine At.wt rfl ?_
  refine At.s (S_callV (some 28) [(11, _), (0, _)] [] (vs := [_, _]) rfl en41 rfl (VN (by simp) rfl View.all (VN (by simp) rfl (View.sub (j := (b.length - 16)) (m := 16) rfl (by rw [List.take_of_length_le (by simp; omega)])) V0)) (by simp) (c_SameN (a := (aTag key nonce (b.take (b.length - 16)) more)) (b := (b.drop (b.length - 16))) (n := 16) (m := b.length - (b.length - 16)) htl (by simp) (fun _ => rfl) (fun h => cut_addr1 (hA (by omega)) (by omega)) (by decide)) (by rintro _ _ ⟨rfl, rfl⟩; rfl) ?_)
  rintro _ _ ⟨rfl, rfl⟩
  refine At.p (some 29) (P_not rfl rfl) ?_
  refine At.nil ?_
  refine At.next ?_
  refine At.cond rfl (fun h29 => ?_) (fun h29 => by simp at h29; exact absurd h29 hok)
  refine At.seq ?_
  refine At.region ?_
  refine At.p (some 8) (P_assign rfl rfl) ?_
  refine At.p (some 9) (P_assign rfl rfl) ?_
  refine At.nil ?_
  refine At.next ?_
  refine At.ret ?_
  refine At.thn_r ?_
  refine At.give (.inl rfl) [] (rows' := []) (vs := [_, _]) rfl ⟨rfl, rfl, trivial⟩ rfl (by simp) (by simp) ⟨rfl, rfl⟩

theorem c_OpenBN {key nonce b more : List (BitVec 8)} {nb nm : Nat} {A A2 : Option Addr} {ca cb bq q br r : Nat} (hnb : b.length = nb) (hnm : more.length = nm) (hkey : key.length = 32) (hnonce : nonce.length = 12) (hA : 0 < nb → A = some ⟨bq, q, none⟩) (hB : 0 < nm → A2 = some ⟨br, r, none⟩) (hl : nb ≤ 100000) (hlm : nm ≤ 100000) (hca : nb ≤ ca) (hlen : 16 ≤ nb) (hok : aTag key nonce (b.take (nb - 16)) more ≠ b.drop (nb - 16)) :
    Con Try.prog 24 [aggK key, aggK nonce, .slice A nb ca, .slice A2 nm cb] [pRow bq q b, pRow br r more] (fun v rs => v = .tuple #[.slice none 0 0, iV 4] ∧ rs = []) := by
  subst hnb hnm
  exact c_OpenB key nonce b more A A2 ca cb bq q br r hkey hnonce hA hB hl hlm hca hlen hok

theorem c_OpenG (key nonce b more : List (BitVec 8)) (A A2 : Option Addr) (ca cb bq q br r : Nat) (hkey : key.length = 32) (hnonce : nonce.length = 12) (hA : 0 < b.length → A = some ⟨bq, q, none⟩) (hB : 0 < more.length → A2 = some ⟨br, r, none⟩) (hl : b.length ≤ 100000) (hlm : more.length ≤ 100000) (hca : b.length ≤ ca) (hlen : 16 ≤ b.length) (hok : (aTag key nonce (b.take (b.length - 16)) more) = (b.drop (b.length - 16))) :
    Con Try.prog 24 [aggK key, aggK nonce, .slice A b.length ca, .slice A2 more.length cb] [pRow bq q b, pRow br r more] (fun v rs => ∃ Aa ba ca', (0 < ca' → Aa = some ⟨ba, 0, none⟩) ∧ (b.length - 16) ≤ ca' ∧ v = .tuple #[.slice Aa (b.length - 16) ca', iV 0] ∧ rs = [⟨true, ba, 0, 5, (streamS key 1#32 nonce (b.take (b.length - 16))).map u8V, ca' - (b.length - 16)⟩]) := by
  refine Con.enter Try.func24 Try.ntmps24 (Nat.le_of_ble_eq_true rfl) rfl fun w => ?_
  refine At.seq ?_
  have hk32 : key.length = 32 := hkey
  have hn12 : nonce.length = 12 := hnonce
  have hbt : (b.take (b.length - 16)).length = (b.length - 16) := by simp
  have htl := aTag_len key nonce (b.take (b.length - 16)) more
  refine At.region ?_
  refine At.s (S_box (some 4) 4 (zs := key.map u8V) rfl rfl rfl (fun b4 => ?_))
  refine At.s (S_box (some 5) 5 (zs := nonce.map u8V) rfl rfl rfl (fun b5 => ?_))
  refine At.p (some 8) (P_assign rfl rfl) ?_
  refine At.p (some 9) (P_assign rfl rfl) ?_
  refine At.nil ?_
  refine At.next ?_
  refine At.seq ?_
  refine At.region ?_
  refine At.p (some 12) (P_move rfl rfl) ?_
  refine At.p (some 13) (P_len_sl rfl rfl ⟨_, Try.underlying31⟩ rfl) ?_
  refine At.p (some 14) (P_sub_i rfl rfl rfl (by omega)) ?_
  refine At.p (some 10) (P_assign rfl rfl) ?_
  refine At.nil ?_
  refine At.next ?_
  refine At.seq ?_
  refine At.seq ?_
  refine At.region ?_
  refine At.p (some 15) (P_move rfl rfl) ?_
  refine At.p (some 16) (P_cmp rfl rfl rfl rfl rfl rfl) ?_
  refine At.nil ?_
  refine At.next ?_
  refine At.cond rfl (fun h16 => by simp at h16; omega) (fun h16 => ?_)
  refine At.skip ?_
  refine At.next ?_
  refine At.seq ?_
  refine At.draws 8 [] [.q false [0, 1, 2, 3, 4, 5, 6], .e false 7] (by kernel_rfl) (by kernel_rfl) ?_
  refine At.wq (some 17) (Q_loadA (k := 4) rfl rfl Try.underlying22 rfl sz22 (by first | omega | (simp <;> omega)) rfl) ?_
  refine At.wq (some 18) (Q_loadA (k := 5) rfl rfl Try.underlying24 rfl sz24 (by first | omega | (simp <;> omega)) rfl) ?_
  refine At.wp (some 19) (P_move rfl rfl) ?_
  refine At.wp (some 20) (P_move rfl rfl) ?_
  refine At.wp (some 21) (P_slice_sl (h := (b.length - 16)) rfl Try.underlying31 sz5 rfl rfl ⟨_, _, rfl, by omega⟩ rfl (by omega) (by omega) (by omega)) ?_
  refine At.wp (some 22) (P_move rfl rfl) ?_
  refine At.wcV (some 23) [(0, _), (1, _)] (vs := [_, _, _, _]) rfl en40 rfl (VN (by simp) rfl (View.sub (j := 0) (m := (b.length - 16)) rfl rfl) (VN (by simp) rfl View.all V0)) (c_tagN (b := b.take (b.length - 16)) (nb := (b.length - 16)) (nm := more.length) hbt rfl hkey hnonce (fun h => cut_zero (hA (by omega))) hB (by omega) hlm) ?_
  refine At.wqn ?_
  refine At.we ?_
  refine S_alloc (some 11) 11 (zs := (List.replicate 16 0#8).map u8V) rfl ze36 rfl (fun b11 => ?_)
  refine At.wt rfl ?_
  refine At.s (S_storeA none (k := 11) (vs := _) rfl rfl rfl (by first | (rw [sz36]; simp <;> omega) | exact sz36) rfl (by first | (intro u hu; obtain ⟨z, _, rfl⟩ := List.mem_map.1 hu; rfl) | simp [Value.oneCell']) (by first | (simp; done) | (intro h; have h2 := congrArg List.length h; simp only [List.length_map, List.length_nil] at h2; omega) | (intro h; cases h)) rfl (by first | omega | (simp <;> omega) | rfl | (simp [*]; done)) ?_)
  refine At.nil ?_
  refine At.next ?_
  refine At.seq ?_
  refine At.seq ?_
  refine At.draws 4 [] [.q false [0, 1, 2, 3]] (by kernel_rfl) (by kernel_rfl) ?_
  refine At.wp (some 24) (P_slice_arr1 rfl Try.underlying36 sz5 rfl rfl rfl rfl (by omega) (by omega) (by omega) (by omega)) ?_
  refine At.wp (some 25) (P_move rfl rfl) ?_
  refine At.wp (some 26) (P_move rfl rfl) ?_
  refine At.wp (some 27) (P_slice_sl (l := (b.length - 16)) rfl Try.underlying31 sz5 rfl ⟨_, _, rfl, by omega⟩ rfl rfl (by omega) (by omega) (by omega)) ?_
  refine At.wqn ?_
  refine At.wt rfl ?_
  refine At.s (S_callV (some 28) [(11, _), (0, _)] [] (vs := [_, _]) rfl en41 rfl (VN (by simp) rfl View.all (VN (by simp) rfl (View.sub (j := (b.length - 16)) (m := 16) rfl (by rw [List.take_of_length_le (by simp; omega)])) V0)) (by simp) (c_SameN (a := (aTag key nonce (b.take (b.length - 16)) more)) (b := (b.drop (b.length - 16))) (n := 16) (m := b.length - (b.length - 16)) htl (by simp) (fun _ => rfl) (fun h => cut_addr1 (hA (by omega)) (by omega)) (by decide)) (by rintro _ _ ⟨rfl, rfl⟩; rfl) ?_)
  rintro _ _ ⟨rfl, rfl⟩
  refine At.p (some 29) (P_not rfl rfl) ?_
  refine At.nil ?_
  refine At.next ?_
  refine At.cond rfl (fun h29 => by simp at h29; exact absurd hok h29) (fun h29 => ?_)
  refine At.skip ?_
  refine At.next ?_
  refine At.seq ?_
  refine At.draws 5 [] [.q false [0, 1, 2, 3, 4]] (by kernel_rfl) (by kernel_rfl) ?_
  refine At.wq (some 30) (Q_loadA (k := 4) rfl rfl Try.underlying22 rfl sz22 (by first | omega | (simp <;> omega)) rfl) ?_
  refine At.wq (some 31) (Q_loadA (k := 5) rfl rfl Try.underlying24 rfl sz24 (by first | omega | (simp <;> omega)) rfl) ?_
  refine At.wp (some 32) (P_move rfl rfl) ?_
  refine At.wp (some 33) (P_move rfl rfl) ?_
  refine At.wp (some 34) (P_slice_sl (h := (b.length - 16)) rfl Try.underlying31 sz5 rfl rfl ⟨_, _, rfl, by omega⟩ rfl (by omega) (by omega) (by omega)) ?_
  refine At.wqn ?_
  refine At.wt rfl ?_
  refine At.s (S_callV (some 35) [(0, _)] [35] (vs := [_, _, _, _]) rfl en18 rfl (VN (by simp) rfl (View.sub (j := 0) (m := (b.length - 16)) rfl rfl) V0) (by simp) (c_StreamN (key := key) (nonce := nonce) (count := 1#32) (l := b.take (b.length - 16)) (n := (b.length - 16)) hbt hkey hnonce (fun h => cut_zero (hA (by omega))) (by omega)) (by rintro _ _ ⟨A35, b35, c35, g35a, g35b, rfl, rfl⟩; rfl) ?_)
  rintro _ _ ⟨A35, b35, c35, g35a, g35b, rfl, rfl⟩
  refine At.p (some 8) (P_assign rfl rfl) ?_
  refine At.p (some 9) (P_assign rfl rfl) ?_
  refine At.nil ?_
  refine At.next ?_
  refine At.ret ?_
  refine At.give (.inl rfl) [35] (rows' := [_]) (vs := [_, _]) rfl ⟨rfl, rfl, trivial⟩ rfl (by simp) (by simp) ⟨A35, b35, c35, g35a, g35b, rfl, rfl⟩

theorem c_OpenGN {key nonce b more : List (BitVec 8)} {nb nm : Nat} {A A2 : Option Addr} {ca cb bq q br r : Nat} (hnb : b.length = nb) (hnm : more.length = nm) (hkey : key.length = 32) (hnonce : nonce.length = 12) (hA : 0 < nb → A = some ⟨bq, q, none⟩) (hB : 0 < nm → A2 = some ⟨br, r, none⟩) (hl : nb ≤ 100000) (hlm : nm ≤ 100000) (hca : nb ≤ ca) (hlen : 16 ≤ nb) (hok : aTag key nonce (b.take (nb - 16)) more = b.drop (nb - 16)) :
    Con Try.prog 24 [aggK key, aggK nonce, .slice A nb ca, .slice A2 nm cb] [pRow bq q b, pRow br r more] (fun v rs => ∃ Aa ba ca', (0 < ca' → Aa = some ⟨ba, 0, none⟩) ∧ (nb - 16) ≤ ca' ∧ v = .tuple #[.slice Aa (nb - 16) ca', iV 0] ∧ rs = [⟨true, ba, 0, 5, (streamS key 1#32 nonce (b.take (nb - 16))).map u8V, ca' - (nb - 16)⟩]) := by
  subst hnb hnm
  exact c_OpenG key nonce b more A A2 ca cb bq q br r hkey hnonce hA hB hl hlm hca hlen hok

theorem r_OpenS (key nonce b more : List (BitVec 8)) (A A2 : Option Addr) (ca cb bq q br r : Nat) (hkey : key.length = 32) (hnonce : nonce.length = 12) (hA : 0 < b.length → A = some ⟨bq, q, none⟩) (hB : 0 < more.length → A2 = some ⟨br, r, none⟩) (hl : b.length ≤ 100000) (hlm : more.length ≤ 100000) (hca : b.length ≤ ca) (hlen : b.length < 16) :
    Con Try.prog 27 [aggK key, aggK nonce, .slice A b.length ca, .slice A2 more.length cb] [pRow bq q b, pRow br r more] (fun v rs => v = .tuple #[.slice none 0 0, .bool false] ∧ rs = []) := by
  refine Con.enter Try.func27 Try.ntmps27 (Nat.le_of_ble_eq_true rfl) rfl fun w => ?_
  refine At.seq ?_
  have hk32 : key.length = 32 := hkey
  have hn12 : nonce.length = 12 := hnonce
  have hbt : (b.take (b.length - 16)).length = (b.length - 16) := by simp
  have htl := aTag_len key nonce (b.take (b.length - 16)) more
  refine At.region ?_
  refine At.s (S_box (some 4) 4 (zs := key.map u8V) rfl rfl rfl (fun b4 => ?_))
  refine At.s (S_box (some 5) 5 (zs := nonce.map u8V) rfl rfl rfl (fun b5 => ?_))
  refine At.p (some 8) (P_assign rfl rfl) ?_
  refine At.p (some 9) (P_assign rfl rfl) ?_
  refine At.nil ?_
  refine At.next ?_
  refine At.seq ?_
  refine At.seq ?_
  refine At.region ?_
  refine At.p (some 12) (P_move rfl rfl) ?_
  refine At.p (some 13) (P_len_sl rfl rfl ⟨_, Try.underlying31⟩ rfl) ?_
  refine At.p (some 14) (P_cmp rfl rfl rfl rfl rfl rfl) ?_
  refine At.nil ?_
  refine At.next ?_
  refine At.cond rfl (fun h14 => ?_) (fun h14 => by simp at h14; omega)
  refine At.seq ?_
  refine At.region ?_
  refine At.p (some 8) (P_assign rfl rfl) ?_
  refine At.p (some 9) (P_assign rfl rfl) ?_
  refine At.nil ?_
  refine At.next ?_
  refine At.ret ?_
  refine At.thn_r ?_
  refine At.give (.inl rfl) [] (rows' := []) (vs := [_, _]) rfl ⟨rfl, rfl, trivial⟩ rfl (by simp) (by simp) ⟨rfl, rfl⟩

theorem r_OpenSN {key nonce b more : List (BitVec 8)} {nb nm : Nat} {A A2 : Option Addr} {ca cb bq q br r : Nat} (hnb : b.length = nb) (hnm : more.length = nm) (hkey : key.length = 32) (hnonce : nonce.length = 12) (hA : 0 < nb → A = some ⟨bq, q, none⟩) (hB : 0 < nm → A2 = some ⟨br, r, none⟩) (hl : nb ≤ 100000) (hlm : nm ≤ 100000) (hca : nb ≤ ca) (hlen : nb < 16) :
    Con Try.prog 27 [aggK key, aggK nonce, .slice A nb ca, .slice A2 nm cb] [pRow bq q b, pRow br r more] (fun v rs => v = .tuple #[.slice none 0 0, .bool false] ∧ rs = []) := by
  subst hnb hnm
  exact r_OpenS key nonce b more A A2 ca cb bq q br r hkey hnonce hA hB hl hlm hca hlen

theorem r_OpenB (key nonce b more : List (BitVec 8)) (A A2 : Option Addr) (ca cb bq q br r : Nat) (hkey : key.length = 32) (hnonce : nonce.length = 12) (hA : 0 < b.length → A = some ⟨bq, q, none⟩) (hB : 0 < more.length → A2 = some ⟨br, r, none⟩) (hl : b.length ≤ 100000) (hlm : more.length ≤ 100000) (hca : b.length ≤ ca) (hlen : 16 ≤ b.length) (hok : (aTag key nonce (b.take (b.length - 16)) more) ≠ (b.drop (b.length - 16))) :
    Con Try.prog 27 [aggK key, aggK nonce, .slice A b.length ca, .slice A2 more.length cb] [pRow bq q b, pRow br r more] (fun v rs => v = .tuple #[.slice none 0 0, .bool false] ∧ rs = []) := by
  refine Con.enter Try.func27 Try.ntmps27 (Nat.le_of_ble_eq_true rfl) rfl fun w => ?_
  refine At.seq ?_
  have hk32 : key.length = 32 := hkey
  have hn12 : nonce.length = 12 := hnonce
  have hbt : (b.take (b.length - 16)).length = (b.length - 16) := by simp
  have htl := aTag_len key nonce (b.take (b.length - 16)) more
  refine At.region ?_
  refine At.s (S_box (some 4) 4 (zs := key.map u8V) rfl rfl rfl (fun b4 => ?_))
  refine At.s (S_box (some 5) 5 (zs := nonce.map u8V) rfl rfl rfl (fun b5 => ?_))
  refine At.p (some 8) (P_assign rfl rfl) ?_
  refine At.p (some 9) (P_assign rfl rfl) ?_
  refine At.nil ?_
  refine At.next ?_
  refine At.seq ?_
  refine At.seq ?_
  refine At.region ?_
  refine At.p (some 12) (P_move rfl rfl) ?_
  refine At.p (some 13) (P_len_sl rfl rfl ⟨_, Try.underlying31⟩ rfl) ?_
  refine At.p (some 14) (P_cmp rfl rfl rfl rfl rfl rfl) ?_
  refine At.nil ?_
  refine At.next ?_
  refine At.cond rfl (fun h14 => by simp at h14; omega) (fun h14 => ?_)
  refine At.skip ?_
  refine At.next ?_
  refine At.seq ?_
  refine At.region ?_
  refine At.s (S_buildSlice0 (some 15) 15 rfl Try.underlying31 sz5 (fun b15 => ?_))
  refine At.p (some 16) (P_move rfl rfl) ?_
  refine At.p (some 17) (P_move rfl rfl) ?_
  refine At.p (some 18) (P_len_sl rfl rfl ⟨_, Try.underlying31⟩ rfl) ?_
  refine At.p (some 19) (P_sub_i rfl rfl rfl (by omega)) ?_
  refine At.p (some 20) (P_slice_sl (h := (b.length - 16)) rfl Try.underlying31 sz5 rfl rfl ⟨_, _, rfl, by omega⟩ rfl (by omega) (by omega) (by omega)) ?_
  refine At.s (S_appendM (some 21) 15 (b.take (b.length - 16)) (f := u8V) (l := []) (L := b.take (b.length - 16)) rfl Try.underlying31 Try.underlying31 (.inr ⟨_, rfl⟩) sz5 by5 ze5 rfl rfl (fun h => ⟨absurd h (by omega), rfl⟩) rfl rfl (Src.row (k := 0) (j := 0) rfl (fun h => cut_zero (hA (by omega))) (fun _ => ⟨rfl, rfl, rfl⟩) (by simp [pRow, List.map_take]) (by simp)) (fun _ => rfl) (by omega) (by omega) rfl hbt ?_)
  intro A21 b21 c21 g21a g21b
  refine At.p (some 10) (P_assign rfl rfl) ?_
  refine At.nil ?_
  refine At.next ?_
  refine At.seq ?_
  refine At.region ?_
  refine At.q (some 22) (Q_loadA (k := 4) rfl rfl Try.underlying22 rfl sz22 (by first | omega | (simp <;> omega)) rfl) ?_
  refine At.q (some 23) (Q_loadA (k := 5) rfl rfl Try.underlying24 rfl sz24 (by first | omega | (simp <;> omega)) rfl) ?_
  refine At.p (some 24) (P_move rfl rfl) ?_
  refine At.p (some 25) (P_move rfl rfl) ?_
  refine At.s (S_callV (some 26) [(15, _), (1, _)] [] (vs := [_, _, _, _]) rfl en42 rfl (VN (by simp) rfl View.all (VN (by simp) rfl View.all V0)) (by simp) (r_tagN (b := b.take (b.length - 16)) (nb := (b.take (b.length - 16)).length) (nm := more.length) rfl rfl hkey hnonce (fun h => g21a (by omega)) hB (by omega) hlm) (by rintro _ _ ⟨rfl, rfl⟩; rfl) ?_)
  rintro _ _ ⟨rfl, rfl⟩
  refine At.s (S_alloc (some 11) 11 (zs := (List.replicate 16 0#8).map u8V) rfl ze36 rfl (fun b11 => ?_))
  refine At.s (S_storeA none (k := 11) (vs := _) rfl rfl rfl (by first | (rw [sz36]; simp <;> omega) | exact sz36) rfl (by first | (intro u hu; obtain ⟨z, _, rfl⟩ := List.mem_map.1 hu; rfl) | simp [Value.oneCell']) (by first | (simp; done) | (intro h; have h2 := congrArg List.length h; simp only [List.length_map, List.length_nil] at h2; omega) | (intro h; cases h)) rfl (by first | omega | (simp <;> omega) | rfl | (simp [*]; done)) ?_)
  refine At.nil ?_
  refine At.next ?_
  refine At.seq ?_
  refine At.seq ?_
  refine At.draws 8 [] [.q false [0, 1, 2, 3, 4, 5, 6, 7]] (by kernel_rfl) (by kernel_rfl) ?_
  refine At.wp (some 27) (P_slice_arr1 rfl Try.underlying36 sz5 rfl rfl rfl rfl (by omega) (by omega) (by omega) (by omega)) ?_
  refine At.wq (some 28) (Q_strN (l := (aTag key nonce (b.take (b.length - 16)) more)) (n := 16) (k := 11) (j := 0) htl rfl Try.underlying31 Try.underlying5 Try.underlying9 rfl (fun _ => rfl) (fun _ => ⟨rfl, rfl, rfl⟩) (by rw [List.drop_zero, List.take_of_length_le (by rw [List.length_map, htl]; decide)])) ?_
  refine At.wp (some 29) (P_move rfl rfl) ?_
  refine At.wp (some 30) (P_move rfl rfl) ?_
  refine At.wp (some 31) (P_len_sl rfl rfl ⟨_, Try.underlying31⟩ rfl) ?_
  refine At.wp (some 32) (P_sub_i rfl rfl rfl (by omega)) ?_
  refine At.wp (some 33) (P_slice_sl (l := (b.length - 16)) rfl Try.underlying31 sz5 rfl ⟨_, _, rfl, by omega⟩ rfl rfl (by omega) (by omega) (by omega)) ?_
  refine At.wq (some 34) (Q_strN (l := (b.drop (b.length - 16))) (n := b.length - (b.length - 16)) (k := 0) (j := (b.length - 16)) (by simp) rfl Try.underlying31 Try.underlying5 Try.underlying9 rfl (fun h => cut_addr1 (hA (by omega)) (by omega)) (fun _ => ⟨rfl, rfl, rfl⟩) (by rw [show (pRow bq q b).cells = b.map u8V from rfl, ← List.map_drop, List.take_of_length_le (by simp)])) ?_
  refine At.wqn ?_
  refine At.wt rfl ?_
  refine At.p (some 35) (P_neq_str rfl rfl rfl) ?_
  refine At.nil ?_
  refine At.next ?_
  refine At.cond rfl (fun h35 => ?_) (fun h35 => by simp at h35; exact absurd h35 hok)
  refine At.seq ?_
  refine At.region ?_
  refine At.p (some 8) (P_assign rfl rfl) ?_
  refine At.p (some 9) (P_assign rfl rfl) ?_
  refine At.nil ?_
  refine At.next ?_
  refine At.ret ?_
  refine At.thn_r ?_
  refine At.give (.inl rfl) [] (rows' := []) (vs := [_, _]) rfl ⟨rfl, rfl, trivial⟩ rfl (by simp) (by simp) ⟨rfl, rfl⟩

theorem r_OpenBN {key nonce b more : List (BitVec 8)} {nb nm : Nat} {A A2 : Option Addr} {ca cb bq q br r : Nat} (hnb : b.length = nb) (hnm : more.length = nm) (hkey : key.length = 32) (hnonce : nonce.length = 12) (hA : 0 < nb → A = some ⟨bq, q, none⟩) (hB : 0 < nm → A2 = some ⟨br, r, none⟩) (hl : nb ≤ 100000) (hlm : nm ≤ 100000) (hca : nb ≤ ca) (hlen : 16 ≤ nb) (hok : aTag key nonce (b.take (nb - 16)) more ≠ b.drop (nb - 16)) :
    Con Try.prog 27 [aggK key, aggK nonce, .slice A nb ca, .slice A2 nm cb] [pRow bq q b, pRow br r more] (fun v rs => v = .tuple #[.slice none 0 0, .bool false] ∧ rs = []) := by
  subst hnb hnm
  exact r_OpenB key nonce b more A A2 ca cb bq q br r hkey hnonce hA hB hl hlm hca hlen hok

theorem r_OpenG (key nonce b more : List (BitVec 8)) (A A2 : Option Addr) (ca cb bq q br r : Nat) (hkey : key.length = 32) (hnonce : nonce.length = 12) (hA : 0 < b.length → A = some ⟨bq, q, none⟩) (hB : 0 < more.length → A2 = some ⟨br, r, none⟩) (hl : b.length ≤ 100000) (hlm : more.length ≤ 100000) (hca : b.length ≤ ca) (hlen : 16 ≤ b.length) (hok : (aTag key nonce (b.take (b.length - 16)) more) = (b.drop (b.length - 16))) :
    Con Try.prog 27 [aggK key, aggK nonce, .slice A b.length ca, .slice A2 more.length cb] [pRow bq q b, pRow br r more] (fun v rs => ∃ Aa ba ca', (0 < ca' → Aa = some ⟨ba, 0, none⟩) ∧ (b.length - 16) ≤ ca' ∧ v = .tuple #[.slice Aa (b.length - 16) ca', .bool true] ∧ rs = [⟨true, ba, 0, 5, (streamS key 1#32 nonce (b.take (b.length - 16))).map u8V, ca' - (b.length - 16)⟩]) := by
  refine Con.enter Try.func27 Try.ntmps27 (Nat.le_of_ble_eq_true rfl) rfl fun w => ?_
  refine At.seq ?_
  have hk32 : key.length = 32 := hkey
  have hn12 : nonce.length = 12 := hnonce
  have hbt : (b.take (b.length - 16)).length = (b.length - 16) := by simp
  have htl := aTag_len key nonce (b.take (b.length - 16)) more
  refine At.region ?_
  refine At.s (S_box (some 4) 4 (zs := key.map u8V) rfl rfl rfl (fun b4 => ?_))
  refine At.s (S_box (some 5) 5 (zs := nonce.map u8V) rfl rfl rfl (fun b5 => ?_))
  refine At.p (some 8) (P_assign rfl rfl) ?_
  refine At.p (some 9) (P_assign rfl rfl) ?_
  refine At.nil ?_
  refine At.next ?_
  refine At.seq ?_
  refine At.seq ?_
  refine At.region ?_
  refine At.p (some 12) (P_move rfl rfl) ?_
  refine At.p (some 13) (P_len_sl rfl rfl ⟨_, Try.underlying31⟩ rfl) ?_
  refine At.p (some 14) (P_cmp rfl rfl rfl rfl rfl rfl) ?_
  refine At.nil ?_
  refine At.next ?_
  refine At.cond rfl (fun h14 => by simp at h14; omega) (fun h14 => ?_)
  refine At.skip ?_
  refine At.next ?_
  refine At.seq ?_
  refine At.region ?_
  refine At.s (S_buildSlice0 (some 15) 15 rfl Try.underlying31 sz5 (fun b15 => ?_))
  refine At.p (some 16) (P_move rfl rfl) ?_
  refine At.p (some 17) (P_move rfl rfl) ?_
  refine At.p (some 18) (P_len_sl rfl rfl ⟨_, Try.underlying31⟩ rfl) ?_
  refine At.p (some 19) (P_sub_i rfl rfl rfl (by omega)) ?_
  refine At.p (some 20) (P_slice_sl (h := (b.length - 16)) rfl Try.underlying31 sz5 rfl rfl ⟨_, _, rfl, by omega⟩ rfl (by omega) (by omega) (by omega)) ?_
  refine At.s (S_appendM (some 21) 15 (b.take (b.length - 16)) (f := u8V) (l := []) (L := b.take (b.length - 16)) rfl Try.underlying31 Try.underlying31 (.inr ⟨_, rfl⟩) sz5 by5 ze5 rfl rfl (fun h => ⟨absurd h (by omega), rfl⟩) rfl rfl (Src.row (k := 0) (j := 0) rfl (fun h => cut_zero (hA (by omega))) (fun _ => ⟨rfl, rfl, rfl⟩) (by simp [pRow, List.map_take]) (by simp)) (fun _ => rfl) (by omega) (by omega) rfl hbt ?_)
  intro A21 b21 c21 g21a g21b
  refine At.p (some 10) (P_assign rfl rfl) ?_
  refine At.nil ?_
  refine At.next ?_
  refine At.seq ?_
  refine At.region ?_
  refine At.q (some 22) (Q_loadA (k := 4) rfl rfl Try.underlying22 rfl sz22 (by first | omega | (simp <;> omega)) rfl) ?_
  refine At.q (some 23) (Q_loadA (k := 5) rfl rfl Try.underlying24 rfl sz24 (by first | omega | (simp <;> omega)) rfl) ?_
  refine At.p (some 24) (P_move rfl rfl) ?_
  refine At.p (some 25) (P_move rfl rfl) ?_
  refine At.s (S_callV (some 26) [(15, _), (1, _)] [] (vs := [_, _, _, _]) rfl en42 rfl (VN (by simp) rfl View.all (VN (by simp) rfl View.all V0)) (by simp) (r_tagN (b := b.take (b.length - 16)) (nb := (b.take (b.length - 16)).length) (nm := more.length) rfl rfl hkey hnonce (fun h => g21a (by omega)) hB (by omega) hlm) (by rintro _ _ ⟨rfl, rfl⟩; rfl) ?_)
  rintro _ _ ⟨rfl, rfl⟩
  refine At.s (S_alloc (some 11) 11 (zs := (List.replicate 16 0#8).map u8V) rfl ze36 rfl (fun b11 => ?_))
  refine At.s (S_storeA none (k := 11) (vs := _) rfl rfl rfl (by first | (rw [sz36]; simp <;> omega) | exact sz36) rfl (by first | (intro u hu; obtain ⟨z, _, rfl⟩ := List.mem_map.1 hu; rfl) | simp [Value.oneCell']) (by first | (simp; done) | (intro h; have h2 := congrArg List.length h; simp only [List.length_map, List.length_nil] at h2; omega) | (intro h; cases h)) rfl (by first | omega | (simp <;> omega) | rfl | (simp [*]; done)) ?_)
  refine At.nil ?_
  refine At.next ?_
  refine At.seq ?_
  refine At.seq ?_
  refine At.draws 8 [] [.q false [0, 1, 2, 3, 4, 5, 6, 7]] (by kernel_rfl) (by kernel_rfl) ?_
  refine At.wp (some 27) (P_slice_arr1 rfl Try.underlying36 sz5 rfl rfl rfl rfl (by omega) (by omega) (by omega) (by omega)) ?_
  refine At.wq (some 28) (Q_strN (l := (aTag key nonce (b.take (b.length - 16)) more)) (n := 16) (k := 11) (j := 0) htl rfl Try.underlying31 Try.underlying5 Try.underlying9 rfl (fun _ => rfl) (fun _ => ⟨rfl, rfl, rfl⟩) (by rw [List.drop_zero, List.take_of_length_le (by rw [List.length_map, htl]; decide)])) ?_
  refine At.wp (some 29) (P_move rfl rfl) ?_
  refine At.wp (some 30) (P_move rfl rfl) ?_
  refine At.wp (some 31) (P_len_sl rfl rfl ⟨_, Try.underlying31⟩ rfl) ?_
  refine At.wp (some 32) (P_sub_i rfl rfl rfl (by omega)) ?_
  refine At.wp (some 33) (P_slice_sl (l := (b.length - 16)) rfl Try.underlying31 sz5 rfl ⟨_, _, rfl, by omega⟩ rfl rfl (by omega) (by omega) (by omega)) ?_
  refine At.wq (some 34) (Q_strN (l := (b.drop (b.length - 16))) (n := b.length - (b.length - 16)) (k := 0) (j := (b.length - 16)) (by simp) rfl Try.underlying31 Try.underlying5 Try.underlying9 rfl (fun h => cut_addr1 (hA (by omega)) (by omega)) (fun _ => ⟨rfl, rfl, rfl⟩) (by rw [show (pRow bq q b).cells = b.map u8V from rfl, ← List.map_drop, List.take_of_length_le (by simp)])) ?_
  refine At.wqn ?_
  refine At.wt rfl ?_
  refine At.p (some 35) (P_neq_str rfl rfl rfl) ?_
  refine At.nil ?_
  refine At.next ?_
  refine At.cond rfl (fun h35 => by simp at h35; exact absurd hok h35) (fun h35 => ?_)
  refine At.skip ?_
  refine At.next ?_
  refine At.seq ?_
  refine At.region ?_
  refine At.q (some 36) (Q_loadA (k := 4) rfl rfl Try.underlying22 rfl sz22 (by first | omega | (simp <;> omega)) rfl) ?_
  refine At.q (some 37) (Q_loadA (k := 5) rfl rfl Try.underlying24 rfl sz24 (by first | omega | (simp <;> omega)) rfl) ?_
  refine At.p (some 38) (P_move rfl rfl) ?_
  refine At.s (S_callV (some 39) [(15, _)] [35] (vs := [_, _, _, _]) rfl en19 rfl (VN (by simp) rfl View.all V0) (by simp) (r_StreamN (key := key) (nonce := nonce) (count := 1#32) (l := b.take (b.length - 16)) (n := (b.take (b.length - 16)).length) rfl hkey hnonce (fun h => g21a (by omega)) (by omega)) (by rintro _ _ ⟨A35, b35, c35, g35a, g35b, rfl, rfl⟩; rfl) ?_)
  rintro _ _ ⟨A35, b35, c35, g35a, g35b, rfl, rfl⟩
  refine At.p (some 8) (P_assign rfl rfl) ?_
  refine At.p (some 9) (P_assign rfl rfl) ?_
  refine At.nil ?_
  refine At.next ?_
  refine At.ret ?_
  refine At.give (.inl rfl) [35] (rows' := [_]) (vs := [_, _]) rfl ⟨rfl, rfl, trivial⟩ rfl (by simp) (by simp) ⟨A35, b35, c35, g35a, by rw [hbt] at g35b; exact g35b, by rw [hbt]; rfl, by rw [hbt]⟩

theorem r_OpenGN {key nonce b more : List (BitVec 8)} {nb nm : Nat} {A A2 : Option Addr} {ca cb bq q br r : Nat} (hnb : b.length = nb) (hnm : more.length = nm) (hkey : key.length = 32) (hnonce : nonce.length = 12) (hA : 0 < nb → A = some ⟨bq, q, none⟩) (hB : 0 < nm → A2 = some ⟨br, r, none⟩) (hl : nb ≤ 100000) (hlm : nm ≤ 100000) (hca : nb ≤ ca) (hlen : 16 ≤ nb) (hok : aTag key nonce (b.take (nb - 16)) more = b.drop (nb - 16)) :
    Con Try.prog 27 [aggK key, aggK nonce, .slice A nb ca, .slice A2 nm cb] [pRow bq q b, pRow br r more] (fun v rs => ∃ Aa ba ca', (0 < ca' → Aa = some ⟨ba, 0, none⟩) ∧ (nb - 16) ≤ ca' ∧ v = .tuple #[.slice Aa (nb - 16) ca', .bool true] ∧ rs = [⟨true, ba, 0, 5, (streamS key 1#32 nonce (b.take (nb - 16))).map u8V, ca' - (nb - 16)⟩]) := by
  subst hnb hnm
  exact r_OpenG key nonce b more A A2 ca cb bq q br r hkey hnonce hA hB hl hlm hca hlen hok
end Go.Proofs.Ytkdkpjnlknofeaa
