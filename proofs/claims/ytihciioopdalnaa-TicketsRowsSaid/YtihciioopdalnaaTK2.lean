import Derived.Test.YtihciioopdalnaaTK1
namespace Go.Proofs.Ytihciioopdalnaa
set_option maxRecDepth 20000
set_option linter.unusedVariables false
set_option linter.unusedSimpArgs false
open Go.SE Go.RowKit
attribute [local irreducible] macS sumS
attribute [local irreducible] tkT rightT risB lastId
def nuI (tk : List (BitVec 8)) : Nat := if tk.length = 16 then beN (tk.take 4) 0 else 0
def nuOk (key : List (BitVec 8)) (nx : Int) (tk : List (BitVec 8)) : Bool := decide (tk.length = 16) && (decide ((nuI tk : Int) < nx) && decide (tkT key (nuI tk) = tk))
theorem nuI_f {tk : List (BitVec 8)} (h : tk.length ≠ 16) : nuI tk = 0 := if_neg h
theorem nuI_t {tk : List (BitVec 8)} (h : tk.length = 16) : nuI tk = beN (tk.take 4) 0 := if_pos h
theorem nuOk_f {key : List (BitVec 8)} {nx : Int} {tk : List (BitVec 8)} (h : tk.length ≠ 16) : nuOk key nx tk = false := by rw [nuOk, decide_eq_false h]; rfl
theorem nuOk_t {key : List (BitVec 8)} {nx : Int} {tk : List (BitVec 8)} (h : tk.length = 16) : nuOk key nx tk = (decide ((beN (tk.take 4) 0 : Int) < nx) && decide (tkT key (beN (tk.take 4) 0) = tk)) := by rw [nuOk, decide_eq_true h, nuI_t h]; rfl
def idxS (id : Int) : List Ent → Nat
 | [] => 0
 | e :: L => if e.id = id then 0 else idxS id L + 1
theorem idx_go {id : Int} {L : List Ent} {k : Nat} (h : k < L.length) (h1 : (L.getD k default).id ≠ id) (hk : idxS id L = k + idxS id (L.drop k)) : idxS id L = k + 1 + idxS id (L.drop (k + 1)) := by
 rw [hk, drop_at h, idxS, if_neg h1]; omega
theorem idx_at {id : Int} {L : List Ent} {k : Nat} (h : k < L.length) (h1 : (L.getD k default).id = id) (hk : idxS id L = k + idxS id (L.drop k)) : idxS id L = k := by
 rw [hk, drop_at h, idxS, if_pos h1]; omega
theorem idx_no {id : Int} {L : List Ent} {k : Nat} (h : L.length ≤ k) (hk : idxS id L = k + idxS id (L.drop k)) : idxS id L = k := by
 rw [hk, List.drop_eq_nil_of_le h, idxS]; omega
def idxI (id : Int) (L : List Ent) : Int := if idxS id L < L.length then (idxS id L : Int) else -1
theorem idxI_t {id : Int} {L : List Ent} {k : Nat} (h : idxS id L = k) (hk : k < L.length) : idxI id L = (k : Int) := by rw [idxI, h, if_pos hk]
theorem idxI_f {id : Int} {L : List Ent} {k : Nat} (h : idxS id L = k) (hk : L.length ≤ k) : idxI id L = -1 := by rw [idxI, h, if_neg (by omega)]
theorem ent_out {L : List Ent} {i : Nat} (h : i < L.length) : splice (encs EntE L) (i * 33) (encs EntE (L.drop (i + 1))) = encs EntE (L.eraseIdx i ++ L.drop (L.length - 1)) := by
 unfold splice
 rw [encs_len, List.length_drop, show i * 33 + (L.length - (i + 1)) * EntE.sz = (L.length - 1) * EntE.sz by
  show i * 33 + (L.length - (i + 1)) * 33 = (L.length - 1) * 33
  omega]
 have h1 := encs_take (e := EntE) L i
 have h2 := encs_drop (e := EntE) L (L.length - 1)
 rw [h2, show i * 33 = i * EntE.sz from rfl, h1, List.eraseIdx_eq_take_drop_succ, encs_app, encs_app]
theorem ent_clr {M N : List Ent} {zs : List Value} (h : zs.length = N.length * 33) : splice (encs EntE (M ++ N)) (M.length * 33) zs = encs EntE M ++ zs := by
 unfold splice
 rw [h, encs_app, show M.length * 33 = (encs EntE M).length from (encs_len (e := EntE) M).symm, List.take_left, List.drop_eq_nil_of_le (by
  rw [List.length_append, encs_len, encs_len]
  exact Nat.le_refl _), List.append_nil]
def mintL (L : List Ent) (nx : Int) (psk : List (BitVec 8)) : List Ent := if 8 < L.length + 1 then (L ++ [mkEnt nx psk]).eraseIdx 0 else L ++ [mkEnt nx psk]
def miOk (nx : Int) (L : List Ent) : Bool := rightT nx L && decide (nx ≠ 2147483647)
def miE (nx : Int) (L : List Ent) : Int := if rightT nx L then (if nx = 2147483647 then 5 else 0) else 1
def miK (key : List (BitVec 8)) (nx : Int) (L : List Ent) : List (BitVec 8) := if miOk nx L then key else List.replicate 32 0#8
def miN (nx : Int) (L : List Ent) : Int := if miOk nx L then nx + 1 else 0
def miL (nx : Int) (L : List Ent) (psk : List (BitVec 8)) : List Ent := if miOk nx L then mintL L nx psk else []
def miI (nx : Int) (L : List Ent) : Int := if miOk nx L then nx else 0
theorem mi_t {nx : Int} {L : List Ent} (key psk : List (BitVec 8)) (h : rightT nx L = true) (h1 : nx ≠ 2147483647) : miE nx L = 0 ∧ miK key nx L = key ∧ miN nx L = nx + 1 ∧ miL nx L psk = mintL L nx psk ∧ miI nx L = nx := by
 have hm : miOk nx L = true := by rw [miOk, h, decide_eq_true h1]; rfl
 unfold miE miK miN miL miI
 simp [hm, h, h1]
theorem mi_f {nx : Int} {L : List Ent} (key psk : List (BitVec 8)) (h : ¬ (rightT nx L = true ∧ nx ≠ 2147483647)) : miK key nx L = List.replicate 32 0#8 ∧ miN nx L = 0 ∧ miL nx L psk = [] ∧ miI nx L = 0 := by
 have hm : miOk nx L = false := by
  rw [miOk, Bool.and_eq_false_iff]
  by_cases h2 : rightT nx L = true
  · right; rw [decide_eq_false_iff_not]; exact fun h3 => h ⟨h2, h3⟩
  · left; simpa using h2
 unfold miK miN miL miI
 simp [hm]
theorem miE_1 {nx : Int} {L : List Ent} (h : rightT nx L = false) : miE nx L = 1 := by simp [miE, h]
theorem miE_5 {nx : Int} {L : List Ent} (h : rightT nx L = true) (h1 : nx = 2147483647) : miE nx L = 5 := by rw [miE, if_pos h, if_pos h1]
theorem miK_len {key : List (BitVec 8)} (nx : Int) (L : List Ent) (h : key.length = 32) : (miK key nx L).length = 32 := by unfold miK; split <;> simp [h]
theorem mintL_len (L : List Ent) (nx : Int) (psk : List (BitVec 8)) : (mintL L nx psk).length = min (L.length + 1) (if 8 < L.length + 1 then L.length else L.length + 1) := by
 unfold mintL
 split
 · rw [List.length_eraseIdx]; simp
 · simp
/-! using one up -/
def usE (key : List (BitVec 8)) (nx : Int) (L : List Ent) (tk : List (BitVec 8)) : Int := if rightT nx L then (if nuOk key nx tk then (if idxS (nuI tk) L < L.length then 0 else 11) else 13) else 1
def usK (key : List (BitVec 8)) (nx : Int) (L : List Ent) (tk : List (BitVec 8)) : List (BitVec 8) := if usE key nx L tk = 0 then key else List.replicate 32 0#8
def usN (key : List (BitVec 8)) (nx : Int) (L : List Ent) (tk : List (BitVec 8)) : Int := if usE key nx L tk = 0 then nx else 0
def usL (key : List (BitVec 8)) (nx : Int) (L : List Ent) (tk : List (BitVec 8)) : List Ent := if usE key nx L tk = 0 then L.eraseIdx (idxS (nuI tk) L) else []
def usI (key : List (BitVec 8)) (nx : Int) (L : List Ent) (tk : List (BitVec 8)) : Int := if usE key nx L tk = 0 then (nuI tk : Int) else 0
theorem usK_len {key : List (BitVec 8)} (nx : Int) (L : List Ent) (tk : List (BitVec 8)) (h : key.length = 32) : (usK key nx L tk).length = 32 := by unfold usK; split <;> simp [h]
theorem us_t {key : List (BitVec 8)} {nx : Int} {L : List Ent} {tk : List (BitVec 8)} (h : usE key nx L tk = 0) : usK key nx L tk = key ∧ usN key nx L tk = nx ∧ usL key nx L tk = L.eraseIdx (idxS (nuI tk) L) ∧ usI key nx L tk = (nuI tk : Int) := by
 simp [usK, usN, usL, usI, h]
theorem us_f {key : List (BitVec 8)} {nx : Int} {L : List Ent} {tk : List (BitVec 8)} (h : usE key nx L tk ≠ 0) : usK key nx L tk = List.replicate 32 0#8 ∧ usN key nx L tk = 0 ∧ usL key nx L tk = [] ∧ usI key nx L tk = 0 := by
 simp [usK, usN, usL, usI, h]
theorem usE_1 {key : List (BitVec 8)} {nx : Int} {L : List Ent} {tk : List (BitVec 8)} (h : rightT nx L = false) : usE key nx L tk = 1 := by simp [usE, h]
theorem usE_13 {key : List (BitVec 8)} {nx : Int} {L : List Ent} {tk : List (BitVec 8)} (h : rightT nx L = true) (h1 : nuOk key nx tk = false) : usE key nx L tk = 13 := by simp [usE, h, h1]
theorem usE_11 {key : List (BitVec 8)} {nx : Int} {L : List Ent} {tk : List (BitVec 8)} (h : rightT nx L = true) (h1 : nuOk key nx tk = true) (h2 : ¬ idxS (nuI tk) L < L.length) : usE key nx L tk = 11 := by rw [usE, if_pos h, if_pos h1, if_neg h2]
theorem usE_0 {key : List (BitVec 8)} {nx : Int} {L : List Ent} {tk : List (BitVec 8)} (h : rightT nx L = true) (h1 : nuOk key nx tk = true) (h2 : idxS (nuI tk) L < L.length) : usE key nx L tk = 0 := by rw [usE, if_pos h, if_pos h1, if_pos h2]
theorem idxI_neg {id : Int} {L : List Ent} (h : idxI id L < 0) : ¬ idxS id L < L.length := fun h2 => by
 rw [idxI, if_pos h2] at h
 omega
theorem idxI_pos {id : Int} {L : List Ent} (h : ¬ idxI id L < 0) : idxS id L < L.length ∧ idxI id L = (idxS id L : Int) := by
 by_cases h2 : idxS id L < L.length
 · exact ⟨h2, by rw [idxI, if_pos h2]⟩
 ·
  rw [idxI, if_neg h2] at h
  omega

set_option maxHeartbeats 2000000 in
theorem c_BEq {a : List (BitVec 8)} {Aa : Option Addr} {na ca ba qa : Nat} {b : List (BitVec 8)} {Ab : Option Addr} {nb cb bb qb : Nat} (hna : a.length = na) (hAa : 0 < na → Aa = some ⟨ba, qa, none⟩) (hnb : b.length = nb) (hAb : 0 < nb → Ab = some ⟨bb, qb, none⟩) (hl : na ≤ 1000000) :
  Con Try.prog 83 [.slice Aa na ca, .slice Ab nb cb] [pRow ba qa a, pRow bb qb b] (fun v rs => v = .bool (decide (a = b)) ∧ rs = []) := by
 refine Con.enter Try.func83 Try.ntmps83 (Nat.le_of_ble_eq_true rfl) rfl fun w => ?_
 refine At.seq ?_
 refine At.region ?_
 refine At.p (some 4) (P_assign rfl rfl) ?_
 refine At.nil ?_
 refine At.next ?_
 refine At.seq ?_
 refine At.region ?_
 refine At.p (some 5) (P_move rfl rfl) ?_
 refine At.q (some 6) (Q_strA (l := a) (n := na) (k := 0) LN rfl Try.underlying22 Try.underlying5 Try.underlying9 rfl hAa (fun _ => ⟨rfl, rfl, rfl⟩)) ?_
 refine At.p (some 7) (P_move rfl rfl) ?_
 refine At.q (some 8) (Q_strA (l := b) (n := nb) (k := 1) LN rfl Try.underlying22 Try.underlying5 Try.underlying9 rfl hAb (fun _ => ⟨rfl, rfl, rfl⟩)) ?_
 refine At.p (some 9) (P_eql_str (a := a) (b := b) rfl rfl rfl) ?_
 refine At.p (some 4) (P_assign rfl rfl) ?_
 refine At.nil ?_
 refine At.next ?_
 refine At.ret ?_
 refine At.give (.inl rfl) [] (rows' := []) (vs := [_]) rfl ⟨rfl, trivial⟩ rfl (by simp) (by simp) ⟨rfl, rfl⟩

set_option maxHeartbeats 2000000 in
theorem c_TNum {key : List (BitVec 8)} {next : Int} {L : List Ent} {A : Option Addr} {n c b q : Nat} {tk : List (BitVec 8)} {Atk : Option Addr} {ntk ctk btk qtk : Nat} (hkey : key.length = 32) (hL : L.length = n) (hA : 0 < n → A = some ⟨b, q, none⟩) (hc : n ≤ c) (hntk : tk.length = ntk) (hAtk : 0 < ntk → Atk = some ⟨btk, qtk, none⟩) (hctk : ntk ≤ ctk) :
  Con Try.prog 61 [.agg ([(key).map u8V, [iV next, .slice A n c]].flatten).toArray, .slice Atk ntk ctk] [⟨false, b, q, 0, encs EntE L, 0⟩, pRow btk qtk tk] (fun v rs => v = .tuple #[iV (nuI tk : Int), .bool (nuOk key next tk)] ∧ rs = []) := by
 refine Con.enter Try.func61 Try.ntmps61 (Nat.le_of_ble_eq_true rfl) rfl fun w => ?_
 refine At.seq ?_
 refine At.region ?_
 refine At.s (S_box (some 2) 2 (zs := [(key).map u8V, [iV next, .slice A n c]].flatten) rfl rfl rfl (fun b2 => ?_))
 refine At.p (some 4) (P_assign rfl rfl) ?_
 refine At.p (some 5) (P_assign rfl rfl) ?_
 refine At.nil ?_
 refine At.next ?_
 refine At.seq ?_
 refine At.seq ?_
 refine At.region ?_
 refine At.p (some 9) (P_move rfl rfl) ?_
 refine At.p (some 10) (P_len_sl rfl rfl ⟨_, Try.underlying22⟩ rfl) ?_
 refine At.p (some 11) (P_cmp rfl rfl rfl rfl rfl rfl) ?_
 refine At.nil ?_
 refine At.next ?_
 refine At.cond rfl (fun h11 => ?_) (fun h11 => ?_)
 · -- cond 11 t
  have e11 : (ntk : Int) ≠ 16 := bne_iff_ne.1 h11
  refine At.seq ?_
  refine At.region ?_
  refine At.p (some 4) (P_assign rfl rfl) ?_
  refine At.p (some 5) (P_assign rfl rfl) ?_
  refine At.nil ?_
  refine At.next ?_
  refine At.ret ?_
  refine At.thn_r ?_
  have hq0 : (0 : Int) = (nuI tk : Int) := (by rw [nuI_f (by omega)]; rfl)
  have hq1 : false = (nuOk key next tk) := (nuOk_f (by omega)).symm
  refine At.give (.inl rfl) [] (rows' := []) (vs := [_, _]) rfl ⟨rfl, rfl, trivial⟩ rfl (by simp) (by simp) ⟨(by first | (rw [hq0, hq1]; try rfl; done) | (rw [← hq0, ← hq1]; try rfl; done) | (simp only [hq0, hq1]; try rfl; done) | (simp only [← hq0, ← hq1]; try rfl; done) | rfl), (by first | (rw [hq0, hq1]; try rfl; done) | (rw [← hq0, ← hq1]; try rfl; done) | (simp only [hq0, hq1]; try rfl; done) | (simp only [← hq0, ← hq1]; try rfl; done) | rfl)⟩
 · -- cond 11 f
  have e11 : (ntk : Int) = 16 := bne_eq_false_iff_eq.1 h11
  refine At.skip ?_
  refine At.next ?_
  refine At.seq ?_
  refine At.region ?_
  refine At.p (some 6) (P_assign rfl rfl) ?_
  refine At.nil ?_
  refine At.next ?_
  refine At.seq ?_
  refine At.seq ?_
  refine At.region ?_
  refine At.p (some 12) (P_move rfl rfl) ?_
  refine At.p (some 13) (P_slice_sl (l := 0) (h := 4) (m := ctk) rfl Try.underlying22 sz5 rfl rfl ⟨_, _, rfl, rfl⟩ rfl DO DO DO) ?_
  refine At.p (some 14) (P_len_sl rfl rfl ⟨_, Try.underlying22⟩ rfl) ?_
  refine At.p (some 15) (P_move rfl rfl) ?_
  refine At.nil ?_
  refine At.next ?_
  refine At.block ?_
  refine At.loopx (I := fun m fr H => ∃ (i : Nat), m = 4 - i ∧ fr = frOf [(0, .agg ([(key).map u8V, [iV next, .slice A n c]].flatten).toArray), (1, .slice Atk ntk ctk), (2, ptr b2 0), (4, iV 0), (5, .bool false), (6, iV ((beN ((tk.take 4).take i) 0) : Int)), (9, .slice Atk ntk ctk), (10, iV (ntk : Int)), (11, .bool ((ntk : Int) != 16)), (12, .slice Atk ntk ctk), (13, .slice (cut Atk 0 ctk 1) (4 - 0) (ctk - 0)), (14, iV ((4 - 0) : Int)), (15, iV (i : Int))] ∧ H = hOf [(0, ⟨false, b, q, 0, encs EntE L, 0⟩), (1, pRow btk qtk tk), (2, ⟨true, b2, 0, 40, [(key).map u8V, [iV next, .slice A n c]].flatten, 0⟩)] ∧ (i ≤ 4)) ?_ ?_
  ·
   intro Kc0 hKc0
   refine At.to [(0, _), (1, _), (2, _), (4, _), (5, _), (6, iV ((beN ((tk.take 4).take 0) 0) : Int)), (9, _), (10, _), (11, _), (12, _), (13, _), (14, _), (15, _)] [(0, _), (1, _), (2, _)] (AllL.cons_ (rfl) (AllL.cons_ (rfl) (AllL.cons_ (rfl) (AllL.cons_ (rfl) (AllL.cons_ (rfl) (AllL.cons_ (rfl) (AllL.cons_ (rfl) (AllL.cons_ (rfl) (AllL.cons_ (rfl) (AllL.cons_ (rfl) (AllL.cons_ (rfl) (AllL.cons_ (rfl) (AllL.cons_ (rfl) trivial))))))))))))) (AllL.cons_ (rfl) (AllL.cons_ (rfl) (AllL.cons_ (rfl) trivial))) ?_
   exact hKc0 _ _ _ ⟨0, rfl, rfl, rfl, (by omega)⟩
  ·
   rintro m fr H ⟨i, rfl, rfl, rfl, hi⟩ Kc0 hKc0
   have hb4 := beN_le4 (l := (tk.take 4).take i) (by simp; omega)
   refine At.seq ?_
   refine At.region ?_
   refine At.p (some 16) (P_cmp rfl rfl rfl rfl rfl rfl) ?_
   refine At.nil ?_
   refine At.next ?_
   refine At.seq ?_
   refine At.cond rfl (fun h16 => ?_) (fun h16 => ?_)
   · -- cond 16 t
    have e16 : (i : Int) < ((4 - 0) : Int) := of_decide_eq_true h16
    refine At.skip ?_
    refine At.next ?_
    refine At.seq ?_
    refine At.block ?_
    refine At.seq ?_
    refine At.region ?_
    refine At.p (some 17) (P_indexAddr_sl1 (b := btk) (m := qtk) (j := i) rfl Try.underlying22 sz5 rfl ((fun h => cut_zero (hAtk (by omega))) OG) rfl RO OG) ?_
    refine At.q (some 18) (Q_loadR (k := 1) (f := u8V) (l := tk) (j := i) (0#8) rfl rfl Try.underlying5 rfl rfl rfl OG) ?_
    refine At.p (some 8) (P_assign rfl rfl) ?_
    refine At.nil ?_
    refine At.next ?_
    refine At.region ?_
    refine At.p (some 19) (P_move rfl rfl) ?_
    refine At.p (some 20) (P_shl_i rfl rfl rfl (by decide) (by decide) (shl8 hb4)) ?_
    refine At.p (some 21) (P_move rfl rfl) ?_
    refine At.p (some 22) (P_conv_wi UK.u8 (by decide) rfl Try.underlying5 Try.underlying3 rfl) ?_
    refine At.p (some 23) (P_or_i8 (a := beN ((tk.take 4).take i) 0) (c := (tk.getD i 0#8).toNat) rfl rfl rfl (by omega) (tk.getD i 0#8).isLt) ?_
    refine At.p (some 6) (P_assign rfl rfl) ?_
    refine At.nil ?_
    refine At.inb_n ?_
    refine At.next ?_
    refine At.region ?_
    refine At.p (some 24) (P_add_i rfl rfl rfl (by omega)) ?_
    refine At.p (some 15) (P_move rfl rfl) ?_
    refine At.nil ?_
    refine At.next ?_
    refine At.to [(0, _), (1, _), (2, _), (4, _), (5, _), (6, iV ((beN ((tk.take 4).take (i + 1)) 0) : Int)), (9, _), (10, _), (11, _), (12, _), (13, _), (14, _), (15, _)] [(0, _), (1, _), (2, _)] (AllL.cons_ (rfl) (AllL.cons_ (rfl) (AllL.cons_ (rfl) (AllL.cons_ (rfl) (AllL.cons_ (rfl) (AllL.cons_ ((congrArg (fun z : Nat => some (iV (z : Int))) (beN_step (l := tk) (w := 4) (k := i) (by omega) (by omega)).symm)) (AllL.cons_ (rfl) (AllL.cons_ (rfl) (AllL.cons_ (rfl) (AllL.cons_ (rfl) (AllL.cons_ (rfl) (AllL.cons_ (rfl) (AllL.cons_ (rfl) trivial))))))))))))) (AllL.cons_ (rfl) (AllL.cons_ (rfl) (AllL.cons_ (rfl) trivial))) ?_
    exact hKc0 _ _ _ (by omega) ⟨i + 1, rfl, rfl, rfl, (by omega)⟩
   · -- cond 16 f
    have e16 : ¬ (i : Int) < ((4 - 0) : Int) := of_decide_eq_false h16
    refine At.exit ?_
    refine At.thn_e ?_
    refine At.thn_e ?_
    refine At.inb_hit ?_
    refine At.next ?_
    refine At.seq ?_
    obtain rfl : i = 4 := by omega
    have h44 : (tk.take 4).take 4 = tk.take 4 := by rw [List.take_take]; rfl
    have hb4 := beN_le4 (l := (tk.take 4).take 4) (by simp; omega)
    refine At.region ?_
    refine At.p (some 25) (P_move rfl rfl) ?_
    refine At.p (some 26) (P_move rfl rfl) ?_
    refine At.p (some 27) (P_fieldAddr0 (off := 32) rfl Try.underlying40 rfl sz3 rfl rfl) ?_
    refine At.q (some 28) (Q_loadO (k := 2) rfl rfl Try.underlying3 rfl rfl (seg_get (i := 1) (p := 0) rfl LN rfl)) ?_
    refine At.p (some 29) (P_cmp rfl rfl rfl rfl rfl rfl) ?_
    refine At.p (some 30) (P_move rfl rfl) ?_
    refine At.gsplit (t := 30) (want := true) rfl (fun g1 => ?_) (fun g1 => ?_)
    ·
     have eg1 : ((beN ((tk.take 4).take 4) 0) : Int) < next := of_decide_eq_true g1
     refine At.gy (t := 30) rfl g1 rfl rfl ?_
     refine At.q (some 31) (Q_loadA (k := 2) rfl rfl Try.underlying40 rfl sz40 LN rfl) ?_
     refine At.gy (t := 30) rfl g1 rfl rfl ?_
     refine At.p (some 32) (P_move rfl rfl) ?_
     refine At.gy (t := 30) rfl g1 rfl rfl ?_
     refine At.s (S_callV (some 33) [(0, _)] [33] (vs := [_, _]) rfl en36 rfl (VN (by simp) rfl View.all V0) (by simp) (c_TText (key := key) (next := next) (L := L) (A := A) (n := n) (c := c) (b := b) (q := q) (id := ((beN ((tk.take 4).take 4) 0) : Int)) LN LN hA OG) (by rintro _ _ ⟨A33, b33, c33, g33a, g33b, rfl, rfl⟩; rfl) ?_)
     rintro _ _ ⟨A33, b33, c33, g33a, g33b, rfl, rfl⟩
     have := tk_le key ((beN ((tk.take 4).take 4) 0) : Int)
     refine At.gy (t := 30) rfl g1 rfl rfl ?_
     refine At.p (some 34) (P_move rfl rfl) ?_
     refine At.gy (t := 30) rfl g1 rfl rfl ?_
     refine At.s (S_callV (some 35) [(33, _), (1, _)] [] (vs := [_, _]) rfl en83 rfl (VN (by simp) rfl View.all (VN (by simp) rfl View.all V0)) (by simp) (c_BEq (a := (tkT key ((beN ((tk.take 4).take 4) 0) : Int))) (na := ((tkT key ((beN ((tk.take 4).take 4) 0) : Int)).length)) (Aa := A33) (ca := c33) (ba := b33) (qa := 0) (b := tk) (nb := ntk) (Ab := Atk) (cb := ctk) (bb := btk) (qb := qtk) LN (fun h => g33a (by omega)) LN hAtk OG) (by rintro _ _ ⟨rfl, rfl⟩; rfl) ?_)
     rintro _ _ ⟨rfl, rfl⟩
     refine At.p (some 36) (P_pick_t rfl rfl g1 rfl) ?_
     refine At.p (some 4) (P_assign rfl rfl) ?_
     refine At.p (some 5) (P_assign rfl rfl) ?_
     refine At.nil ?_
     refine At.next ?_
     refine At.ret ?_
     have hn : nuOk key next tk = (decide ((beN ((tk.take 4).take 4) 0 : Int) < next) && decide (tkT key (beN ((tk.take 4).take 4) 0) = tk)) := by rw [h44]; exact nuOk_t (by omega)
     have hi : nuI tk = beN ((tk.take 4).take 4) 0 := by rw [h44]; exact nuI_t (by omega)
     have hq0 : (((beN ((tk.take 4).take 4) 0) : Int) : Int) = (nuI tk : Int) := (by rw [hi])
     have hq1 : (decide ((tkT key ((beN ((tk.take 4).take 4) 0) : Int)) = tk)) = (nuOk key next tk) := (by rw [hn]; first | (rw [decide_eq_true (p := (beN ((tk.take 4).take 4) 0 : Int) < next) (by omega), Bool.true_and]; done) | (rw [decide_eq_false (p := (beN ((tk.take 4).take 4) 0 : Int) < next) (by omega), Bool.false_and]; done))
     refine At.give (.inl rfl) [] (rows' := []) (vs := [_, _]) rfl ⟨rfl, rfl, trivial⟩ rfl (by simp) (by simp) ⟨(by first | (rw [hq0, hq1]; try rfl; done) | (rw [← hq0, ← hq1]; try rfl; done) | (simp only [hq0, hq1]; try rfl; done) | (simp only [← hq0, ← hq1]; try rfl; done) | rfl), (by first | (rw [hq0, hq1]; try rfl; done) | (rw [← hq0, ← hq1]; try rfl; done) | (simp only [hq0, hq1]; try rfl; done) | (simp only [← hq0, ← hq1]; try rfl; done) | rfl)⟩
    ·
     have eg1 : ¬ ((beN ((tk.take 4).take 4) 0) : Int) < next := of_decide_eq_false g1
     refine At.gn (some 31) (t := 30) rfl g1 rfl rfl ?_
     refine At.gn (some 32) (t := 30) rfl g1 rfl rfl ?_
     refine At.gn (some 33) (t := 30) rfl g1 rfl rfl ?_
     refine At.gn (some 34) (t := 30) rfl g1 rfl rfl ?_
     refine At.gn (some 35) (t := 30) rfl g1 rfl rfl ?_
     refine At.p (some 36) (P_pick_f rfl rfl g1 rfl) ?_
     refine At.p (some 4) (P_assign rfl rfl) ?_
     refine At.p (some 5) (P_assign rfl rfl) ?_
     refine At.nil ?_
     refine At.next ?_
     refine At.ret ?_
     have hn : nuOk key next tk = (decide ((beN ((tk.take 4).take 4) 0 : Int) < next) && decide (tkT key (beN ((tk.take 4).take 4) 0) = tk)) := by rw [h44]; exact nuOk_t (by omega)
     have hi : nuI tk = beN ((tk.take 4).take 4) 0 := by rw [h44]; exact nuI_t (by omega)
     have hq0 : (((beN ((tk.take 4).take 4) 0) : Int) : Int) = (nuI tk : Int) := (by rw [hi])
     have hq1 : false = (nuOk key next tk) := (by rw [hn]; first | (rw [decide_eq_true (p := (beN ((tk.take 4).take 4) 0 : Int) < next) (by omega), Bool.true_and]; done) | (rw [decide_eq_false (p := (beN ((tk.take 4).take 4) 0 : Int) < next) (by omega), Bool.false_and]; done))
     refine At.give (.inl rfl) [] (rows' := []) (vs := [_, _]) rfl ⟨rfl, rfl, trivial⟩ rfl (by simp) (by simp) ⟨(by first | (rw [hq0, hq1]; try rfl; done) | (rw [← hq0, ← hq1]; try rfl; done) | (simp only [hq0, hq1]; try rfl; done) | (simp only [← hq0, ← hq1]; try rfl; done) | rfl), (by first | (rw [hq0, hq1]; try rfl; done) | (rw [← hq0, ← hq1]; try rfl; done) | (simp only [hq0, hq1]; try rfl; done) | (simp only [← hq0, ← hq1]; try rfl; done) | rfl)⟩

theorem c_CloneE (A : Option Addr) (n c bq q s0 s1 : Nat) (cs : List Value) (hA : 0 < n → A = some ⟨bq, q, none⟩) (hl : cs.length = n * 33) (h1 : ∀ u ∈ cs, u.oneCell' = true) (hn : n ≤ 1000000) :
  Con Try.prog 58 [.slice A n c] [⟨false, bq, q, s0, cs, s1⟩] (fun v rs => ∃ A' b' c', (0 < c' → A' = some ⟨b', 0, none⟩) ∧ n ≤ c' ∧ v = .slice A' n c' ∧ rs = [⟨true, b', 0, 96, cs, (c' - n) * 33⟩]) := by
 refine Con.enter Try.func58 Try.ntmps58 (Nat.le_of_ble_eq_true rfl) rfl fun w => ?_
 refine At.seq ?_
 refine At.region ?_
 refine At.p (some 2) (P_assign rfl rfl) ?_
 refine At.nil ?_
 refine At.next ?_
 refine At.seq ?_
 refine At.seq ?_
 refine At.region ?_
 refine At.p (some 3) (P_move rfl rfl) ?_
 refine At.p (some 4) (P_eql_slnil rfl Try.underlying38 rfl rfl) ?_
 refine At.nil ?_
 refine At.next ?_
 refine At.cond rfl (fun h4 => ?_) (fun h4 => ?_)
 · -- cond 4 t
  refine At.seq ?_
  refine At.region ?_
  refine At.p (some 2) (P_assign rfl rfl) ?_
  refine At.nil ?_
  refine At.next ?_
  refine At.ret ?_
  refine At.thn_r ?_
  have hn : n = 0 := Nat.eq_zero_of_not_pos (fun h => by have h2 := hA h; subst h2; cases h4)
  have hc : cs = [] := List.eq_nil_of_length_eq_zero (by simp [hl, hn])
  subst hn hc
  refine At.empty 1 0 96 ?_
  refine At.give (.inl rfl) [1] (rows' := [_]) (vs := [_]) rfl ⟨rfl, trivial⟩ rfl (by simp) (by simp) ⟨none, 0, 0, by simp, by simp, rfl, rfl⟩
 · -- cond 4 f
  refine At.skip ?_
  refine At.next ?_
  refine At.seq ?_
  refine At.region ?_
  refine At.s (S_buildSlice0 (some 5) 1 rfl Try.underlying38 sz96 (fun b1 => ?_))
  refine At.p (some 6) (P_move rfl rfl) ?_
  refine At.s (S_appendN (some 7) 1 n cs (cells := []) (rest := 0) (b := b1) rfl Try.underlying38 Try.underlying38 (.inr ⟨_, rfl⟩) sz96 by96 ze96 rfl rfl (fun h => absurd h (by omega)) rfl rfl (by omega) (Src.row (k := 0)  (b := bq) (q := q) rfl hA (fun _ => ⟨rfl, rfl, rfl⟩) (by rw [List.drop_zero, ← hl, List.take_length]) hl) h1 (by decide) (by omega) (by omega) (by omega) rfl ?_)
  intro A1 b1 c1 g1 g2
  refine At.p (some 2) (P_assign rfl rfl) ?_
  refine At.nil ?_
  refine At.next ?_
  refine At.ret ?_
  refine At.give (.inl rfl) [1] (rows' := [_]) (vs := [_]) rfl ⟨rfl, trivial⟩ rfl (by simp) (by simp) ⟨A1, b1, c1, g1, g2, rfl, rfl⟩

theorem c_CloneEn {L : List Ent} {A : Option Addr} {n c b q : Nat} (hL : L.length = n) (hA : 0 < n → A = some ⟨b, q, none⟩) (hn : n ≤ 1000000) :
  Con Try.prog 58 [.slice A n c] [⟨false, b, q, 0, encs EntE L, 0⟩] (fun v rs => ∃ (A' : Option Addr) (b' c' : Nat), (0 < c' → A' = some ⟨b', 0, none⟩) ∧ L.length ≤ c' ∧ v = .slice A' L.length c' ∧ rs = [⟨true, b', 0, 96, encs EntE L, (c' - L.length) * 33⟩]) := by
 subst hL
 exact c_CloneE A L.length c b q 0 0 (encs EntE L) hA (encs_len L) (encs_ones L) hn

set_option maxHeartbeats 2000000 in
theorem c_DelE {L : List Ent} {A : Option Addr} {c b : Nat} {i : Nat} (hA : 0 < c → A = some ⟨b, 0, none⟩) (hc : L.length ≤ c) (hi : i < L.length) :
  Con Try.prog 59 [.slice A L.length c, iV (i : Int), iV ((i : Int) + 1)] [⟨true, b, 0, 96, encs EntE L, (c - L.length) * 33⟩] (fun v rs => v = .slice (some ⟨b, 0, none⟩) (L.eraseIdx i).length c ∧ rs = [⟨true, b, 0, 96, encs EntE (L.eraseIdx i), (c - (L.eraseIdx i).length) * 33⟩]) := by
 refine Con.enter Try.func59 Try.ntmps59 (Nat.le_of_ble_eq_true rfl) rfl fun w => ?_
 refine At.seq ?_
 refine At.region ?_
 refine At.p (some 6) (P_assign rfl rfl) ?_
 refine At.nil ?_
 refine At.next ?_
 refine At.seq ?_
 refine At.region ?_
 refine At.p (some 8) (P_move rfl rfl) ?_
 refine At.p (some 9) (P_move rfl rfl) ?_
 refine At.p (some 10) (P_move rfl rfl) ?_
 refine At.p (some 11) (P_move rfl rfl) ?_
 refine At.p (some 12) (P_len_sl rfl rfl ⟨_, Try.underlying38⟩ rfl) ?_
 refine At.p (some 13) (P_slice_sl (l := i) (h := (i + 1)) (m := L.length) rfl Try.underlying38 sz96 rfl ⟨_, _, rfl, by omega⟩ ⟨_, _, rfl, by omega⟩ ⟨_, _, rfl, by omega⟩ DO DO DO) ?_
 refine At.nil ?_
 refine At.next ?_
 refine At.seq ?_
 refine At.seq ?_
 refine At.region ?_
 refine At.p (some 14) (P_move rfl rfl) ?_
 refine At.p (some 15) (P_move rfl rfl) ?_
 refine At.p (some 16) (P_cmp rfl rfl rfl rfl rfl rfl) ?_
 refine At.nil ?_
 refine At.next ?_
 refine At.cond rfl (fun h16 => by simp at h16; omega) (fun h16 => ?_)
 have e16 : (i : Int) ≠ ((i : Int) + 1) := beq_eq_false_iff_ne.1 h16
 refine At.skip ?_
 refine At.next ?_
 refine At.seq ?_
 refine At.region ?_
 refine At.p (some 18) (P_move rfl rfl) ?_
 refine At.p (some 19) (P_len_sl rfl rfl ⟨_, Try.underlying38⟩ rfl) ?_
 refine At.p (some 7) (P_assign rfl rfl) ?_
 refine At.nil ?_
 refine At.next ?_
 refine At.seq ?_
 refine At.draws 6 [] [.q false [0, 1, 2, 3, 4, 5]] (by kernel_rfl) (by kernel_rfl) ?_
 refine At.wp (some 20) (P_move rfl rfl) ?_
 refine At.wp (some 21) (P_move rfl rfl) ?_
 refine At.wp (some 22) (P_slice_sl (l := 0) (h := i) (m := c) rfl Try.underlying38 sz96 rfl rfl ⟨_, _, rfl, by omega⟩ rfl DO DO DO) ?_
 refine At.wp (some 23) (P_move rfl rfl) ?_
 refine At.wp (some 24) (P_move rfl rfl) ?_
 refine At.wp (some 25) (P_slice_sl (l := (i + 1)) (h := L.length) (m := c) rfl Try.underlying38 sz96 rfl ⟨_, _, rfl, by omega⟩ rfl rfl DO DO DO) ?_
 refine At.wqn ?_
 refine At.wt rfl ?_
 refine At.s (S_appendIn (some 26) 0 (sz := 33) (b := b) (cells := encs EntE L) (m := (L.length - (i + 1))) (news := encs EntE (L.drop (i + 1))) rfl Try.underlying38 Try.underlying38 (.inr ⟨_, rfl⟩) sz96 rfl (cut_zero (hA (by omega))) rfl (by omega) (by rw [encs_len, encs_len, List.length_drop]; show (i - 0) * 33 + (L.length - (i + 1)) * 33 ≤ L.length * 33; omega) (by rw [encs_len]; show L.length * 33 + _ ≠ 0; omega) (SrcE.tail (en := EntE) (k := 0) (j := (i + 1)) (L := L) rfl rfl (fun h => cut_addr ((fun h => hA (by omega)) (by omega)) (by omega)) (fun _ => ⟨rfl, rfl, OG⟩) OG) (encs_ones _) ?_)
 refine At.row 0 (⟨true, b, 0, 96, encs EntE (L.eraseIdx i ++ L.drop (L.length - 1)), (c - L.length) * 33⟩) rfl (by show splice _ ((i - 0) * 33) _ = _; rw [Nat.sub_zero]; exact ent_out (by omega)) ?_
 refine At.p (some 0) (P_assign rfl rfl) ?_
 refine At.nil ?_
 refine At.next ?_
 refine At.seq ?_
 refine At.region ?_
 refine At.p (some 27) (P_move rfl rfl) ?_
 refine At.p (some 28) (P_move rfl rfl) ?_
 refine At.p (some 29) (P_len_sl rfl rfl ⟨_, Try.underlying38⟩ rfl) ?_
 refine At.p (some 30) (P_move rfl rfl) ?_
 refine At.p (some 31) (P_slice_sl (l := (i - 0 + (L.length - (i + 1)))) (h := L.length) (m := (c - 0)) rfl Try.underlying38 sz96 rfl ⟨_, _, rfl, by omega⟩ ⟨_, _, rfl, by omega⟩ rfl DO DO DO) ?_
 have hle : (L.eraseIdx i).length = L.length - 1 := by rw [List.length_eraseIdx, if_pos (by omega)]
 have hld : (L.drop (L.length - 1)).length = 1 := by rw [List.length_drop]; omega
 have h8 : (L.eraseIdx i ++ L.drop (L.length - 1)).length = L.length - 1 + 1 := by rw [List.length_append, hle, hld]
 refine At.s (S_clear none (k := 0) (b := b) (p := (0 + (i - 0 + (L.length - (i + 1))) * 33)) (zs := List.replicate 1 (iV 0) ++ List.replicate 32 (u8V 0#8)) rfl Try.underlying38 ze96 rfl ((fun h => cut_addr ((fun h => cut_zero (hA (by omega))) (by omega)) (by omega)) (by omega)) (by omega) rfl (by rw [show ((L.length - (i - 0 + (L.length - (i + 1))))) = 1 by omega]; kernel_rfl) (by intro u hu; simp at hu; rcases hu with rfl | rfl <;> rfl) (by rw [encs_len, h8]; show (0 + (i - 0 + (L.length - (i + 1))) * 33) + 33 ≤ (L.length - 1 + 1) * 33; omega) (by rw [encs_len, h8]; show (L.length - 1 + 1) * 33 + _ ≠ 0; omega) ?_)
 refine At.row 0 ⟨true, b, 0, 96, encs EntE (L.eraseIdx i) ++ (List.replicate 1 (iV 0) ++ List.replicate 32 (u8V 0#8)), (c - L.length) * 33⟩ rfl (by rw [show (0 + (i - 0 + (L.length - (i + 1))) * 33) = (L.eraseIdx i).length * 33 by rw [hle]; omega]; exact ent_clr (by rw [hld]; rfl)) ?_
 refine At.forget 0 rfl ?_
 refine At.nil ?_
 refine At.next ?_
 refine At.seq ?_
 refine At.region ?_
 refine At.p (some 32) (P_move rfl rfl) ?_
 refine At.p (some 6) (P_assign rfl rfl) ?_
 refine At.nil ?_
 refine At.next ?_
 refine At.ret ?_
 have hv : (.slice (cut A 0 c 33) (i - 0 + (L.length - (i + 1))) (c - 0) : Value) = .slice (some ⟨b, 0, none⟩) (L.eraseIdx i).length c := by rw [(fun h => cut_zero (hA (by omega))) (by omega), hle, show (i - 0 + (L.length - (i + 1))) = L.length - 1 by omega, show (c - 0) = c by omega]
 have hr : (c - L.length) * 33 + (List.replicate 1 (iV 0) ++ List.replicate 32 (u8V 0#8)).length = (c - (L.eraseIdx i).length) * 33 := by rw [hle]; show (c - L.length) * 33 + 33 = _; omega
 refine At.give (.inl rfl) [0] (rows' := [_]) (vs := [_]) rfl ⟨rfl, trivial⟩ rfl (by simp) (by simp) ⟨hv, by rw [hr]⟩

set_option maxHeartbeats 2000000 in
theorem c_TPred {eid : Int} {psk : List (BitVec 8)} {bp : Nat} {id : Int} (hpsk : psk.length = 32) :
  Con Try.prog 63 [.agg ([[iV eid], (psk).map u8V].flatten).toArray, ptr bp 0] [⟨false, bp, 0, 0, [iV id], 0⟩] (fun v rs => v = .bool (eid == id) ∧ rs = []) := by
 refine Con.enter Try.func63 Try.ntmps63 (Nat.le_of_ble_eq_true rfl) rfl fun w => ?_
 refine At.seq ?_
 refine At.region ?_
 refine At.s (S_box (some 2) 2 (zs := [[iV eid], (psk).map u8V].flatten) rfl rfl rfl (fun b2 => ?_))
 refine At.p (some 3) (P_assign rfl rfl) ?_
 refine At.nil ?_
 refine At.next ?_
 refine At.seq ?_
 refine At.region ?_
 refine At.p (some 4) (P_fieldAddr0 (off := 0) rfl Try.underlying96 rfl sz3 rfl rfl) ?_
 refine At.q (some 5) (Q_loadO (k := 2) rfl rfl Try.underlying3 rfl rfl (seg_get (i := 0) (p := 0) rfl LN rfl)) ?_
 refine At.q (some 6) (Q_loadO (k := 0) rfl rfl Try.underlying3 rfl rfl rfl) ?_
 refine At.p (some 7) (P_cmp rfl rfl rfl rfl rfl rfl) ?_
 refine At.p (some 3) (P_assign rfl rfl) ?_
 refine At.nil ?_
 refine At.next ?_
 refine At.ret ?_
 refine At.give (.inl rfl) [] (rows' := []) (vs := [_]) rfl ⟨rfl, trivial⟩ rfl (by simp) (by simp) ⟨rfl, rfl⟩

set_option maxHeartbeats 2000000 in
theorem c_Idx {L : List Ent} {A : Option Addr} {n c b q : Nat} {bp : Nat} {id : Int} (hL : L.length = n) (hA : 0 < n → A = some ⟨b, q, none⟩) (hn : n ≤ 1000000) :
  Con Try.prog 62 [.slice A n c, .func (.func 63) #[] #[ptr bp 0]] [⟨false, b, q, 0, encs EntE L, 0⟩, ⟨false, bp, 0, 0, [iV id], 0⟩] (fun v rs => v = iV (idxI id L) ∧ rs = []) := by
 refine Con.enter Try.func62 Try.ntmps62 (Nat.le_of_ble_eq_true rfl) rfl fun w => ?_
 refine At.seq ?_
 refine At.region ?_
 refine At.p (some 4) (P_assign rfl rfl) ?_
 refine At.nil ?_
 refine At.next ?_
 refine At.seq ?_
 refine At.seq ?_
 refine At.region ?_
 refine At.p (some 6) (P_move rfl rfl) ?_
 refine At.p (some 7) (P_len_sl rfl rfl ⟨_, Try.underlying38⟩ rfl) ?_
 refine At.p (some 8) (P_move rfl rfl) ?_
 refine At.nil ?_
 refine At.next ?_
 refine At.block ?_
 refine At.loopx (I := fun m fr H => ∃ (k : Nat), m = n - k ∧ fr = frOf [(0, .slice A n c), (1, .func (.func 63) #[] #[ptr bp 0]), (6, .slice A n c), (7, iV (n : Int)), (8, iV (k : Int))] ∧ H = hOf [(0, ⟨false, b, q, 0, encs EntE L, 0⟩), (1, ⟨false, bp, 0, 0, [iV id], 0⟩)] ∧ (k ≤ n) ∧ (idxS id L = k + idxS id (L.drop k))) ?_ ?_
 ·
  intro Kc0 hKc0
  refine At.to [(0, _), (1, _), (6, _), (7, _), (8, _)] [(0, _), (1, _)] (AllL.cons_ (rfl) (AllL.cons_ (rfl) (AllL.cons_ (rfl) (AllL.cons_ (rfl) (AllL.cons_ (rfl) trivial))))) (AllL.cons_ (rfl) (AllL.cons_ (rfl) trivial)) ?_
  exact hKc0 _ _ _ ⟨0, rfl, rfl, rfl, (by omega), (Nat.zero_add _).symm⟩
 ·
  rintro m fr H ⟨k, rfl, rfl, rfl, hk, hx⟩ Kc0 hKc0
  refine At.seq ?_
  refine At.region ?_
  refine At.p (some 9) (P_cmp rfl rfl rfl rfl rfl rfl) ?_
  refine At.nil ?_
  refine At.next ?_
  refine At.seq ?_
  refine At.cond rfl (fun h9 => ?_) (fun h9 => ?_)
  · -- cond 9 t
   have e9 : (k : Int) < (n : Int) := of_decide_eq_true h9
   refine At.skip ?_
   refine At.next ?_
   refine At.seq ?_
   refine At.block ?_
   refine At.seq ?_
   refine At.region ?_
   refine At.p (some 10) (P_move rfl rfl) ?_
   refine At.p (some 5) (P_assign rfl rfl) ?_
   refine At.nil ?_
   refine At.next ?_
   refine At.seq ?_
   refine At.region ?_
   refine At.p (some 11) (P_move rfl rfl) ?_
   refine At.p (some 12) (P_move rfl rfl) ?_
   refine At.p (some 13) (P_move rfl rfl) ?_
   refine At.p (some 14) (P_indexAddr_sl (b := b) (m := q) (j := k) rfl Try.underlying38 sz96 rfl (hA OG) rfl RO OG) ?_
   have enf15 := Ent.hp (L.getD k default)
   refine At.q (some 15) (Q_loadEN (en := EntE) (k := 0) (j := k) (p := 0) (L := L) (cs := [[iV ((L.getD k default).id)], ((L.getD k default).psk).map u8V].flatten) (sz := 33) default rfl rfl rfl Try.underlying96 rfl sz96 rfl OG OG (List.take_of_length_le (Nat.le_of_eq (Enc.len _ _))) LN (by decide)) ?_
   refine At.s (S_callC (some 16) [(1, ⟨false, bp, 0, 0, [iV id], 0⟩)] [] (f := 63) (vs := [_]) (lb := [ptr bp 0]) rfl rfl en63 rfl (VN (by simp) rfl View.all V0) (by simp) (c_TPred (eid := (L.getD k default).id) (psk := (L.getD k default).psk) (Ent.hp _)) (by rintro _ _ ⟨rfl, rfl⟩; rfl) ?_)
   rintro _ _ ⟨rfl, rfl⟩
   refine At.nil ?_
   refine At.next ?_
   refine At.cond rfl (fun h16 => ?_) (fun h16 => ?_)
   · -- cond 16 t
    have e16 : (L.getD k default).id = id := eq_of_beq h16
    refine At.seq ?_
    refine At.region ?_
    refine At.p (some 17) (P_move rfl rfl) ?_
    refine At.p (some 4) (P_assign rfl rfl) ?_
    refine At.nil ?_
    refine At.next ?_
    refine At.ret ?_
    refine At.inb_r ?_
    refine At.thn_r ?_
    refine At.thn_r ?_
    refine At.inb_r ?_
    refine At.thn_r ?_
    have hq0 : ((k : Int) : Int) = idxI id L := (idxI_t (idx_at (by omega) e16 hx) (by omega)).symm
    refine At.give (.inl rfl) [] (rows' := []) (vs := [_]) rfl ⟨rfl, trivial⟩ rfl (by simp) (by simp) ⟨(by first | (rw [hq0]; try rfl; done) | (rw [← hq0]; try rfl; done) | (simp only [hq0]; try rfl; done) | (simp only [← hq0]; try rfl; done) | rfl), (by first | (rw [hq0]; try rfl; done) | (rw [← hq0]; try rfl; done) | (simp only [hq0]; try rfl; done) | (simp only [← hq0]; try rfl; done) | rfl)⟩
   · -- cond 16 f
    have e16 : (L.getD k default).id ≠ id := beq_eq_false_iff_ne.1 h16
    refine At.skip ?_
    refine At.inb_n ?_
    refine At.next ?_
    refine At.region ?_
    refine At.p (some 18) (P_add_i rfl rfl rfl (by omega)) ?_
    refine At.p (some 8) (P_move rfl rfl) ?_
    refine At.nil ?_
    refine At.next ?_
    refine At.to [(0, _), (1, _), (6, _), (7, _), (8, _)] [(0, _), (1, _)] (AllL.cons_ (rfl) (AllL.cons_ (rfl) (AllL.cons_ (rfl) (AllL.cons_ (rfl) (AllL.cons_ (rfl) trivial))))) (AllL.cons_ (rfl) (AllL.cons_ (rfl) trivial)) ?_
    exact hKc0 _ _ _ (by omega) ⟨k + 1, rfl, rfl, rfl, (by omega), (idx_go (by omega) e16 hx)⟩
  · -- cond 9 f
   have e9 : ¬ (k : Int) < (n : Int) := of_decide_eq_false h9
   refine At.exit ?_
   refine At.thn_e ?_
   refine At.thn_e ?_
   refine At.inb_hit ?_
   refine At.next ?_
   refine At.seq ?_
   refine At.region ?_
   refine At.p (some 4) (P_assign rfl rfl) ?_
   refine At.nil ?_
   refine At.next ?_
   refine At.ret ?_
   have hq0 : ((-1) : Int) = idxI id L := (idxI_f (idx_no (by omega) hx) (by omega)).symm
   refine At.give (.inl rfl) [] (rows' := []) (vs := [_]) rfl ⟨rfl, trivial⟩ rfl (by simp) (by simp) ⟨(by first | (rw [hq0]; try rfl; done) | (rw [← hq0]; try rfl; done) | (simp only [hq0]; try rfl; done) | (simp only [← hq0]; try rfl; done) | rfl), (by first | (rw [hq0]; try rfl; done) | (rw [← hq0]; try rfl; done) | (simp only [hq0]; try rfl; done) | (simp only [← hq0]; try rfl; done) | rfl)⟩


end Go.Proofs.Ytihciioopdalnaa

