import Derived.Test.YtcjfkmhijfcciaaXS2
import Derived.Test.YtcjfkmhijfcciaaSE16
import Derived.Test.YtcjfkmhijfcciaaSE17
import Derived.Test.YtcjfkmhijfcciaaSE33
namespace Go.Proofs.Ytcjfkmhijfcciaa
set_option maxRecDepth 20000
set_option linter.unusedVariables false
set_option linter.unusedSimpArgs false
open Go.SE Go.RowKit
theorem c_Extract (A A2 : Option Addr) (key b : List (BitVec 8)) (ca cb bq q br r : Nat) (hA : 0 < key.length → A = some ⟨bq, q, none⟩) (hB : 0 < b.length → A2 = some ⟨br, r, none⟩) (hl : key.length ≤ 1000000) (hlb : b.length ≤ 900000) :
  Con Try.prog 17 [.slice A key.length ca, .slice A2 b.length cb] [pRow bq q key, pRow br r b] (fun v rs => v = aggK (macS key b) ∧ rs = []) := by
 refine Con.enter Try.func17 Try.ntmps17 (Nat.le_of_ble_eq_true rfl) rfl fun w => ?_
 refine At.seq ?_
 have hml := macS_len key b
 refine At.region ?_
 refine At.s (S_alloc (some 4) 4 (zs := (List.replicate 32 0#8).map u8V) rfl ze22 rfl (fun b4 => ?_))
 refine At.nil ?_
 refine At.next ?_
 refine At.seq ?_
 refine At.region ?_
 refine At.p (some 5) (P_move rfl rfl) ?_
 refine At.p (some 6) (P_move rfl rfl) ?_
 refine At.s (S_callV (some 7) [(0, _), (1, _)] [] (vs := [_, _]) rfl en56 rfl (VN (by simp) rfl View.all (VN (by simp) rfl View.all V0)) (by simp) (c_Mac A A2 key b ca cb bq q br r hA hB hl hlb) (by rintro _ _ ⟨rfl, rfl⟩; rfl) ?_)
 rintro _ _ ⟨rfl, rfl⟩
 refine At.s (S_storeA none (k := 4) (vs := _) rfl rfl rfl (by first | (rw [sz22]; simp <;> omega) | exact sz22) rfl WA WB rfl WC ?_)
 refine At.nil ?_
 refine At.next ?_
 refine At.ret ?_
 refine At.giveV (.inl rfl) [] (rows' := []) (ResV.cellA (k := 4) rfl rfl Try.underlying22 rfl sz22 (by first | (simp <;> omega) | rfl | (simp [*]; done)) rfl) rfl (by simp) (by simp) ?_
 exact ⟨rfl, rfl⟩

theorem c_ExtractN {A A2 : Option Addr} {key b : List (BitVec 8)} {n nb ca cb bq q br r : Nat} (hn : key.length = n) (hnb : b.length = nb) (hA : 0 < n → A = some ⟨bq, q, none⟩) (hB : 0 < nb → A2 = some ⟨br, r, none⟩) (hl : n ≤ 1000000) (hlb : nb ≤ 900000) :
  Con Try.prog 17 [.slice A n ca, .slice A2 nb cb] [pRow bq q key, pRow br r b] (fun v rs => v = aggK (macS key b) ∧ rs = []) := by
 subst hn hnb
 exact c_Extract A A2 key b ca cb bq q br r hA hB hl hlb


end Go.Proofs.Ytcjfkmhijfcciaa

